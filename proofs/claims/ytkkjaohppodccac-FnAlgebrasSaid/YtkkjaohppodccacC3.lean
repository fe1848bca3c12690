/- Contracts of the functions that the law reaches. -/
import Derived.Test.YtkkjaohppodccacC2
set_option linter.unusedVariables false
set_option linter.unusedSimpArgs false
namespace Hf
open Go Classical
variable {P : Program} {ρ : Nat → FuncId}
theorem s_l01Whole_ok (B : Bs P ρ) (E : F_s_l01Whole P ρ) {H : List Blk} {n : Nat} (hn : n ≤ 8) :
    CallR P ρ 317 [.i .i64 (n : Int)] H (fun u G => ∃ b, u = .one b ∧ Ext H G ∧ VS G b ((List.range n).map bas)) := by
  refine call_of_q B.fn B.mo E.1 rfl (fun hAr hHp => ?_) rfl
  refine ⟨_, rfl, ?_⟩
  refine ⟨At, (fun a0 (i0 : Nat) (x0 : At) => [(0, a0), (3, .one x0), (4, .one (.i .i64 ((i0 : Nat) : Int)))]) _ , fun (i0 : Nat) (x0 : At) (G0 : List Blk) => (VW H.length G0 x0 ((List.range i0).map bas) ∧ Upto H.length H G0), n, ⟨_, ⟨VW.nil (Nat.le_refl _), Ext.app.upto⟩, ⟨rfl, rfl, rfl, trivial⟩⟩, ?_⟩
  rintro i0 x0 G0 hi0 ⟨hV0, hU0⟩
  have hlH := (Upto.ext (Ext.refl (H := H)) hU0 (Nat.le_refl _)).len
  refine ⟨fun h8 => ?_, fun h8 => ?_⟩
  · replace h8 := of_decide_eq_true h8
    refine ⟨_, s_l01Basis_ok B E.2 (by omega), rfl, ?_⟩
    refine ⟨_, rfl, ?_⟩
    refine ⟨_, vw_app (hV0.ext Ext.app) VS.one (by simp; omega) (by simp; omega), ?_⟩
    rintro a15 G15 ⟨hv15, hu15⟩
    refine ⟨((i0 + 1 : Nat) : Int), w64_id _ (by omega) (by omega), ?_⟩
    refine ⟨by omega, _, ?_, ⟨rfl, rfl, rfl, trivial⟩⟩
    dsimp only
    rw [List.range_succ, List.map_append]
    exact ⟨hv15, hU0.trans (Ext.app.upto.trans hu15)⟩
  · replace h8 := of_decide_eq_false h8
    have e0 : n = i0 := by omega
    subst e0
    exact ⟨rfl, x0, rfl, Upto.ext Ext.refl hU0 (Nat.le_refl _), hV0.vs⟩

theorem s_l01Meet_ok (B : Bs P ρ) (E : F_s_l01Meet P ρ) {H : List Blk} {p : Int} {a b : At} {A L : List By} (hp : Pr p) (hA : VS H a A) (hAv : ∀ v ∈ A, Vp 8 p v) (hAn : A.length ≤ 8) (hL : VS H b L) (hLr : RR 8 p L) :
    CallR P ρ 318 [.i .i64 p, a, b] H (fun u G => ∃ c K, u = .one c ∧ Ext H G ∧ VS G c K ∧ RR 8 p K ∧ ∀ v, Sp' 8 p K v ↔ Sp' 8 p A v ∧ Sp' 8 p L v) := by
  have hp2 := hp.1
  have hp3 := hp.2.1
  have hLl := hLr.len
  refine call_of_q B.fn B.mo E.1 rfl (fun hAr hHp => ?_) (by simp only [List.all_cons, List.all_nil, hA.lt, hL.lt]; rfl)
  refine ⟨_, rfl, ?_⟩
  refine ⟨_, rfl, ?_⟩
  refine ⟨_, _, _, get_new, cputs_by (by simp) (by omega), eqBk_rfl, ?_⟩
  rw [app_set0]
  refine ⟨Unit, (fun a0 a1 a2 a7 a8 (i0 : Nat) (x0 : Unit) => [(0, a0), (1, a1), (2, a2), (7, a7), (8, a8), (9, .one (.i .i64 ((i0 : Nat) : Int)))]) _ _ _ _ _ , fun (i0 : Nat) (x0 : Unit) (G0 : List Blk) => (∃ w, G0 = H ++ [⟨false, .by [] (0 * 8) fun _ => 0⟩] ++ [⟨false, .by [] 64 w⟩] ∧ ∀ x, x < 64 → w x = if x / 8 < i0 then byW 8 p (A.getD (x / 8) z0) L (x % 8) else 0), A.length, ⟨(), ⟨_, rfl, fun x hx => by simp [spl, hx]⟩, ⟨rfl, rfl, rfl, rfl, rfl, rfl, trivial⟩⟩, ?_⟩
  rintro i0 _ G0 hi0 ⟨w, rfl, hw⟩
  refine ⟨_, (hA).len, ?_⟩
  refine ⟨fun h19 => ?_, fun h19 => ?_⟩
  · replace h19 := of_decide_eq_true h19
    obtain ⟨k26, o26, n26, c26, q26, ea26, hl26, hq26, r26, N26, f26, hk26, hN26, hf26⟩ := (hA.ext (Ext.app.trans Ext.app)).at i0 (by omega)
    refine ⟨k26, o26, n26, c26, i0, q26, ea26, rfl, hl26, hq26, ?_⟩
    refine ⟨_, _, _, _, _, hk26, ⟨by simp, hN26⟩, hf26, ?_⟩
    refine ⟨_, s_l01By_ok B E.2.1 (by omega) (by omega) (hL.ext (Ext.app.trans Ext.app)) hLr.fs (by omega), ?_⟩
    rintro _ G0 ⟨rfl, rfl⟩
    refine ⟨i0, _, rfl, by omega, rfl, ?_⟩
    refine ⟨_, _, _, get_new, cputs_by (by simp) (by omega), eqBk_rfl, ?_⟩
    refine ⟨((i0 + 1 : Nat) : Int), w64_id _ (by omega) (by omega), ?_⟩
    refine ⟨by omega, (), ?_, ⟨rfl, rfl, rfl, rfl, rfl, rfl, trivial⟩⟩
    refine ⟨_, app_set0, fun x hx => ?_⟩
    simp only [spl]
    by_cases e : x / 8 = i0
    · rw [if_pos (by omega), if_pos (by omega), byL_W, e]; congr 1; omega
    · rw [if_neg (by omega), hw x hx]
      by_cases h : x / 8 < i0
      · rw [if_pos h, if_pos (by omega)]
      · rw [if_neg h, if_neg (by omega)]
  · replace h19 := of_decide_eq_false h19
    have e0 : A.length = i0 := by omega
    subst e0
    refine ⟨_, (hA).len, ?_⟩
    refine ⟨_, _, _, _, w, get_new, ⟨by simp, by omega⟩, fun x _ => congrArg _ (Nat.zero_add x).symm, ?_⟩
    have hwr : ∀ i, i < A.length → ∀ y, y < 8 → rw8 w i y = byW 8 p (A.getD i z0) L y := by
      intro i hi y hy
      unfold rw8
      rw [if_pos hy, hw _ (by omega), show (i * 8 + y) / 8 = i by omega, show (i * 8 + y) % 8 = y by omega, if_pos hi]
    refine ⟨_, s_l01Kernel_ok B E.2.2.1 hp hAn (fun j hj => ⟨fun x => by
      rcases Nat.lt_or_ge x 8 with hx | hx
      · unfold bz; rw [hwr j hj x hx]; exact (byW_vp (by omega) (by omega) (hAv _ (getD_mem hj))).1 x
      · unfold bz rw8; rw [if_neg (by omega)]; simp; omega, fun x hx => if_neg (by omega)⟩), ?_⟩
    rintro _ G35 ⟨b35, K, rfl, hE35, hV35, hR35, hK35⟩
    have hkl := hR35.len
    have hH35 : Ext H G35 := Ext.app.trans (Ext.app.trans hE35)
    refine ⟨At, (fun a0 a1 a10 (i1 : Nat) (x1 : At) => [(0, a0), (1, a1), (7, .one x1), (10, a10), (11, .one (.i .i64 ((i1 : Nat) : Int)))]) _ _ _ , fun (i1 : Nat) (x1 : At) (G1 : List Blk) => (VS G1 x1 (redL p ((K.take i1).map (cmF A.length p fun i => A.getD i z0))) ∧ Ext G35 G1), K.length, ⟨_, ⟨(VW.nil (m := 0) (Nat.zero_le _)).vs.ext (Ext.app.trans hE35), Ext.refl⟩, ⟨rfl, rfl, rfl, rfl, rfl, trivial⟩⟩, ?_⟩
    rintro i1 x1 G1 hi1 ⟨hV1, hE1⟩
    refine ⟨_, (hV35).len, ?_⟩
    refine ⟨fun h39 => ?_, fun h39 => ?_⟩
    · replace h39 := of_decide_eq_true h39
      refine ⟨_, rfl, ?_⟩
      refine ⟨_, _, _, get_new, cputs_by (by simp) (by omega), eqBk_rfl, ?_⟩
      rw [app_set0]
      refine ⟨Unit, (fun a0 a1 a7 a10 a11 a12 (i2 : Nat) (x2 : Unit) => [(0, a0), (1, a1), (7, a7), (10, a10), (11, a11), (12, a12), (13, .one (.i .i64 ((i2 : Nat) : Int)))]) _ _ _ _ _ _ , fun (i2 : Nat) (x2 : Unit) (G2 : List Blk) => (∃ w, G2 = G1 ++ [⟨false, .by [] 8 w⟩] ∧ ∀ y, y < 8 → w y = cmF i2 p (fun i => A.getD i z0) (K.getD i1 z0) y), A.length, ⟨(), ⟨_, rfl, fun y hy => by rw [cmF_0]; simp [spl, hy, z0]⟩, ⟨rfl, rfl, rfl, rfl, rfl, rfl, rfl, trivial⟩⟩, ?_⟩
      rintro i2 _ G2 hi2 ⟨w2, rfl, hw2⟩
      refine ⟨_, (hA).len, ?_⟩
      refine ⟨fun h46 => ?_, fun h46 => ?_⟩
      · replace h46 := of_decide_eq_true h46
        refine ⟨_, _, _, _, cmF i2 p (fun i => A.getD i z0) (K.getD i1 z0), get_new, ⟨by simp, by omega⟩, fun x hx => by rw [Nat.zero_add]; exact (hw2 x hx).symm, ?_⟩
        obtain ⟨k53, o53, n53, c53, q53, ea53, hl53, hq53, r53, N53, f53, hk53, hN53, hf53⟩ := (hA.ext (hH35.trans (hE1.trans Ext.app))).at i2 (by omega)
        refine ⟨k53, o53, n53, c53, i2, q53, ea53, rfl, hl53, hq53, ?_⟩
        refine ⟨_, _, _, _, _, hk53, ⟨by simp, hN53⟩, hf53, ?_⟩
        obtain ⟨k58, o58, n58, c58, q58, ea58, hl58, hq58, r58, N58, f58, hk58, hN58, hf58⟩ := (hV35.ext (hE1.trans Ext.app)).at i1 (by omega)
        refine ⟨k58, o58, n58, c58, i1, q58, ea58, rfl, hl58, hq58, ?_⟩
        refine ⟨i2, q58 + i2, rfl, by omega, by omega, ?_⟩
        refine ⟨_, .u (K.getD i1 z0 i2), hk58, (by rw [cat_u (by omega), ← hf58 i2 (by omega)]), ?_⟩
        have hxb := toNat_le (K.getD i1 z0 i2)
        refine ⟨_, s_l01Add_ok B E.2.2.2.1 (by omega) (by omega) (by omega) (by omega), rfl, ?_⟩
        refine ⟨_, _, _, get_new, cputs_by (by simp) (by omega), eqBk_rfl, ?_⟩
        rw [app_set0]
        refine ⟨((i2 + 1 : Nat) : Int), w64_id _ (by omega) (by omega), ?_⟩
        refine ⟨by omega, (), ?_, ⟨rfl, rfl, rfl, rfl, rfl, rfl, rfl, trivial⟩⟩
        refine ⟨_, rfl, fun y hy => ?_⟩
        rw [cmF_succ (by omega) (by omega)]
        simp [spl, hy, addW, bz]
      · replace h46 := of_decide_eq_false h46
        have e2 : A.length = i2 := by omega
        subst e2
        refine ⟨_, _, _, _, cmF A.length p (fun i => A.getD i z0) (K.getD i1 z0), get_new, ⟨by simp, by omega⟩, fun x hx => by rw [Nat.zero_add]; exact (hw2 x hx).symm, ?_⟩
        have hmv : ∀ v ∈ (K.take i1).map (cmF A.length p fun i => A.getD i z0), Vp 8 p v := by
          intro v hv
          obtain ⟨x, -, rfl⟩ := List.mem_map.1 hv
          exact cmF_vp (by omega) (by omega)
        have hr := (redL_rr hp hmv).1
        have hrl := hr.len
        refine ⟨_, s_l01Put_ok B E.2.2.2.2 (by omega) (by omega) (hV1.ext Ext.app) hr.fs (by omega), ?_⟩
        rintro _ G66 ⟨b66, rfl, hE66, hV66⟩
        refine ⟨((i1 + 1 : Nat) : Int), w64_id _ (by omega) (by omega), ?_⟩
        refine ⟨by omega, _, ?_, ⟨rfl, rfl, rfl, rfl, rfl, trivial⟩⟩
        dsimp only
        rw [take_getD (by omega), List.map_append, List.map_cons, List.map_nil, redL_snoc]
        exact ⟨hV66, hE1.trans (Ext.app.trans hE66)⟩
    · replace h39 := of_decide_eq_false h39
      have e1 : K.length = i1 := by omega
      subst e1
      have hmv : ∀ v ∈ K.map (cmF A.length p fun i => A.getD i z0), Vp 8 p v := by
        intro v hv
        obtain ⟨x, -, rfl⟩ := List.mem_map.1 hv
        exact cmF_vp (by omega) (by omega)
      obtain ⟨r1, r2⟩ := redL_rr hp hmv
      rw [List.take_length] at hV1
      exact ⟨rfl, x1, _, rfl, hH35.trans hE1, hV1, r1, fun v => (r2 v).trans (meet_iff hp hAv hAn hLr hwr hK35)⟩


end Hf
namespace Hf
open Go Classical
variable {P : Program} {ρ : Nat → FuncId}
theorem ifc {α : Type} {p q : Prop} {i1 : Decidable p} {i2 : Decidable q} {a b : α} (h : p ↔ q) : @ite α p i1 a b = @ite α q i2 a b := by
  by_cases hp : p
  · rw [if_pos hp, if_pos (h.1 hp)]
  · rw [if_neg hp, if_neg (fun q => hp (h.2 q))]
end Hf
namespace Hf
open Go Classical
variable {P : Program} {ρ : Nat → FuncId}
theorem at_k {H l : List Blk} {i : Nat} : (H ++ l)[H.length + i]? = l[i]? := by
  rw [List.getElem?_append_right (by omega), Nat.add_sub_cancel_left]
theorem ap2 {H : List Blk} {A B : Blk} : H ++ [A] ++ [B] = H ++ [A, B] := by simp
theorem Ext.fr' {s : Nat} {H G G' : List Blk} (h : Ext H G) (f : Fr [s] G G') (hs : H.length ≤ s) : Ext H G' := fun k B e => f k B (by have := lt_of e; simp; omega) (h k B e)
theorem Fr.ext {s : Nat} {H G : List Blk} (h : Fr [s] H G) (hs : H.length ≤ s) : Ext H G := fun k B e => h k B (by have := lt_of e; simp; omega) e
end Hf
namespace Hf
open Go Classical
variable {P : Program} {ρ : Nat → FuncId}
/-- maps in a row -/
def VL (H : List Blk) (a : At) (Ls : List By) : Prop := (a = .sn ∧ Ls = []) ∨ ∃ k r N w, a = .sl k 0 Ls.length Ls.length ∧ H[k]? = some ⟨r, .by [] N w⟩ ∧ Ls.length * 64 ≤ N ∧ ∀ i x, i < Ls.length → x < 64 → w (i * 64 + x) = (Ls.getD i z0) x
theorem VL.len {H : List Blk} {a : At} {Ls : List By} (h : VL H a Ls) : lenA a = some Ls.length := by
  rcases h with ⟨rfl, rfl⟩ | ⟨k, r, N, w, rfl, -⟩ <;> rfl
theorem VL.lt {H : List Blk} {a : At} {Ls : List By} (h : VL H a Ls) : a.lt H.length = true := by
  rcases h with ⟨rfl, rfl⟩ | ⟨k, r, N, w, rfl, hk, -⟩
  · rfl
  · simp [At.lt, lt_of hk]
end Hf
namespace Hf
open Go Classical
variable {P : Program} {ρ : Nat → FuncId}
/-- rows up to i -/
def UmI (p : Int) (f g : By) (i : Nat) (w : By) : Prop := ∀ x, x < 64 → w x = if x / 8 < i then vec 8 p (fun y => bz f (2 + x / 8) * bz g (2 + y)) (x % 8) else 0
theorem UmI.st {p : Int} {f g w w' : By} {i : Nat} (h : UmI p f g i w) (h1 : ∀ x, x < 64 → x / 8 ≠ i → w' x = w x) (h2 : ∀ y, y < 8 → w' (i * 8 + y) = vec 8 p (fun y => bz f (2 + i) * bz g (2 + y)) y) : UmI p f g (i + 1) w' := fun x hx => by
  by_cases e : x / 8 = i
  · rw [if_pos (by omega), e]
    have := h2 (x % 8) (by omega)
    rwa [show i * 8 + x % 8 = x by omega] at this
  · rw [h1 x hx e, h x hx]
    by_cases q : x / 8 < i
    · rw [if_pos q, if_pos (by omega)]
    · rw [if_neg q, if_neg (by omega)]
theorem UmI.all {p : Int} {n : Nat} {f g w : By} (hp : 1 ≤ p) (h : UmI p f g n w) (hn : n ≤ 8) (hf : ∀ i, n ≤ i → i < 8 → bz f (2 + i) = 0) : ∀ x, x < 64 → umF p f g x = w x := fun x hx => by
  rw [h x hx]
  unfold umF
  rw [if_pos hx]
  split
  · rfl
  · unfold vec
    rw [if_pos (by omega), hf (x / 8) (by omega) (by omega)]
    show byt ((0 * bz g (2 + x % 8)) % p) = 0
    rw [Int.zero_mul, Int.zero_emod]; rfl
end Hf
namespace Hf
open Go Classical
variable {P : Program} {ρ : Nat → FuncId}
/-- the law's code, however long -/
def CV (H : List Blk) (a : At) : Prop := a = .sn ∨ ∃ k off len cap r cs fz, a = .sl k off len cap ∧ H[k]? = some ⟨r, .fo cs fz⟩ ∧ len ≤ 9223372036854775807 ∧ ∀ y, y < len → ∃ u : UInt8, cs[off + y]? = some (.int .u8 (u.toNat : Int))
theorem CV.len {H : List Blk} {a : At} (h : CV H a) : ∃ n, lenA a = some n ∧ n ≤ 9223372036854775807 := by
  rcases h with rfl | ⟨k, off, len, cap, r, cs, fz, rfl, -, h, -⟩
  · exact ⟨0, rfl, by omega⟩
  · exact ⟨len, rfl, h⟩
theorem CV.lt {H : List Blk} {a : At} (h : CV H a) : a.lt H.length = true := by
  rcases h with rfl | ⟨k, off, len, cap, r, cs, fz, rfl, h1, -⟩
  · rfl
  · simp [At.lt, lt_of h1]
theorem CV.cb {H : List Blk} {a : At} {n : Nat} (h : CV H a) (hn : lenA a = some n) (h2 : n ≤ 4096) : CB H a := by
  rcases h with rfl | ⟨k, off, len, cap, r, cs, fz, rfl, h1, h3, h4⟩
  · exact .inl rfl
  · have : len = n := by simpa [lenA] using hn
    exact .inr ⟨k, off, len, cap, r, cs, fz, rfl, h1, by omega, h4⟩
theorem eqB_self {n : Nat} {f : By} : eqB n f f = true := eqB_iff.2 fun _ _ => rfl
theorem as1 {H l : List Blk} {B : Blk} : H ++ l ++ [B] = H ++ (l ++ [B]) := List.append_assoc _ _ _
end Hf
namespace Hf
open Go Classical
variable {P : Program} {ρ : Nat → FuncId}
/-- the places of a number -/
def dgQ (n a : Nat) : List Int := [((a / (n * n * n) : Nat) : Int), ((a / (n * n) % n : Nat) : Int), ((a / n % n : Nat) : Int), ((a % n : Nat) : Int)]
def CoF (p : Int) (n : Nat) (f : By) : Prop := ∃ t, t < n * n * n * n ∧ ¬ CoaT p n f t
noncomputable def ffQ (p : Int) (n : Nat) (f : By) : List Int := if h : CoF p n f then dgQ n (Classical.choose (least h)) else []
theorem CoF.no {p : Int} {n : Nat} {f : By} (h : ¬ CoF p n f) (t : Nat) (ht : t < n * n * n * n) : CoaT p n f t := Classical.byContradiction fun e => h ⟨t, ht, e⟩
noncomputable def ffC (p n : Int) (f : By) : Int := if CShp p n f then (if CoF p n.toNat f then 0 else 4) else 1
noncomputable def ffL (p n : Int) (f : By) : List Int := if CShp p n f then ffQ p n.toNat f else []
/-- the answer of FirstCoFault -/
def FcV (H : List Blk) (p n : Int) (f : By) (u : Sv) (G : List Blk) : Prop := ∃ b, u = .tup [b, .i .i64 (ffC p n f)] ∧ Ext H G ∧ VI G b (ffL p n f)
theorem FcV.s {H G : List Blk} {p n : Int} {f : By} {u : Sv} (h : ¬ CShp p n f) (hu : u = .tup [.sn, .i .i64 1]) (hG : Ext H G) : FcV H p n f u G :=
  ⟨.sn, by rw [hu]; unfold ffC; rw [if_neg h], hG, by unfold ffL; rw [if_neg h]; exact rfl⟩
theorem l_likeInts_ok (B : Bs P ρ) (E : F_l_likeInts P ρ) {H : List Blk} {a b : At} {L : List Int} (hA : VI H a L) (hB : VI H b L) (hla : a.lt H.length = true) (hlb : b.lt H.length = true) (hl : L.length ≤ 100) :
    CallR P ρ 452 [a, b] H (fun u G => u = .one (.b true) ∧ G = H) := by
  refine call_of_q B.fn B.mo E rfl (fun hAr hHp => ?_) (by simp only [List.all_cons, List.all_nil, hla, hlb]; rfl)
  refine ⟨_, (hA).len, ?_⟩
  refine ⟨_, (hB).len, ?_⟩
  refine ⟨fun h10 => ?_, fun h10 => ?_⟩
  · replace h10 := bne_t h10
    exact absurd rfl h10
  · replace h10 := bne_f h10
    refine ⟨Unit, (fun a0 a1 (i0 : Nat) (x0 : Unit) => [(0, a0), (1, a1), (5, .one (.i .i64 ((i0 : Nat) : Int)))]) _ _ , fun (i0 : Nat) (x0 : Unit) (G0 : List Blk) => (G0 = H), L.length, ⟨(), rfl, ⟨rfl, rfl, rfl, trivial⟩⟩, ?_⟩
    rintro i0 _ G0 hi0 rfl
    refine ⟨_, (hA).len, ?_⟩
    refine ⟨fun h14 => ?_, fun h14 => ?_⟩
    · replace h14 := of_decide_eq_true h14
      obtain ⟨k19, o19, n19, c19, q19, ea19, hl19, hq19, r19, l19, hk19, hi19⟩ := VI.at (hA) i0 (by omega)
      refine ⟨k19, o19, n19, c19, i0, q19, ea19, rfl, hl19, hq19, ?_⟩
      refine ⟨_, _, hk19, hi19, ?_⟩
      obtain ⟨k23, o23, n23, c23, q23, ea23, hl23, hq23, r23, l23, hk23, hi23⟩ := VI.at (hB) i0 (by omega)
      refine ⟨k23, o23, n23, c23, i0, q23, ea23, rfl, hl23, hq23, ?_⟩
      refine ⟨_, _, hk23, hi23, ?_⟩
      refine ⟨fun h25 => ?_, fun h25 => ?_⟩
      · replace h25 := bne_t h25
        exact absurd rfl h25
      · replace h25 := bne_f h25
        refine ⟨((i0 + 1 : Nat) : Int), w64_id _ (by omega) (by omega), ?_⟩
        exact ⟨by omega, (), rfl, ⟨rfl, rfl, rfl, trivial⟩⟩
    · replace h14 := of_decide_eq_false h14
      have e0 : L.length = i0 := by omega
      subst e0
      exact ⟨rfl, rfl, rfl⟩

end Hf
namespace Hf
open Go Classical
variable {P : Program} {ρ : Nat → FuncId}
def cpR (p : Int) (f v : By) (m j : Nat) : By := vec 8 p fun y => sm m fun i => bz v i * bz f (10 + i * 64 + j * 8 + y)
def CpI (p : Int) (f v : By) (i j : Nat) (w : By) : Prop := ∀ x, x < 64 → w x = cpR p f v (if x / 8 < j then i + 1 else i) (x / 8) (x % 8)
theorem CpI.z {p : Int} {f v w : By} (h : ∀ x, x < 64 → w x = 0) : CpI p f v 0 0 w := fun x hx => by
  rw [h x hx, if_neg (Nat.not_lt_zero _)]
  unfold cpR vec
  rw [if_pos (by omega)]
  show 0 = byt (0 % p)
  rw [Int.zero_emod]; rfl
theorem CpI.st {p : Int} {f v w w' : By} {i j : Nat} (h : CpI p f v i j w) (h1 : ∀ x, x < 64 → x / 8 ≠ j → w' x = w x) (h2 : ∀ y, y < 8 → w' (j * 8 + y) = cpR p f v (i + 1) j y) : CpI p f v i (j + 1) w' := fun x hx => by
  by_cases e : x / 8 = j
  · rw [if_pos (by omega), e]
    have := h2 (x % 8) (by omega)
    rwa [show j * 8 + x % 8 = x by omega] at this
  · rw [h1 x hx e, h x hx]
    by_cases q : x / 8 < j
    · rw [if_pos q, if_pos (by omega)]
    · rw [if_neg q, if_neg (by omega)]
theorem Cog.z {p : Int} {n : Nat} {f : By} (h : Cog p n f) {i j y : Nat} (hi : i < 8) (hj : n ≤ j) (hj8 : j < 8) (hy : y < 8) : bz f (10 + i * 64 + j * 8 + y) = 0 := ((h.1.2.2 i hi).1 j hj8).2 (by omega) y hy
end Hf
namespace Hf
open Go Classical
variable {P : Program} {ρ : Nat → FuncId}
/-- cocommutative -/
def CoM (f : By) : Prop := ∀ i j k : Nat, i < 8 → j < 8 → k < j → f (10 + i * 64 + j * 8 + k) = f (10 + i * 64 + k * 8 + j)
theorem CoM.all {f : By} (h : CoM f) {i j k : Nat} (hi : i < 8) (hj : j < 8) (hk : k < 8) : f (10 + i * 64 + j * 8 + k) = f (10 + i * 64 + k * 8 + j) := by
  rcases Nat.lt_trichotomy j k with e | e | e
  · exact (h i k j hi hk e).symm
  · rw [e]
  · exact h i j k hi hj e
/-- commutative -/
def AlC (f : By) : Prop := ∀ i j k : Nat, i < 8 → j < 8 → k < 8 → f (10 + i * 64 + j * 8 + k) = f (10 + j * 64 + i * 8 + k)
def opF (f : By) : By := fun x => if x < 10 then f x else f (10 + (x - 10) / 8 % 8 * 64 + (x - 10) / 64 * 8 + (x - 10) % 8)
theorem i_Algebra_has_n0_ok (B : Bs P ρ) (E : E_i_Algebra_has P ρ) {n p : Int} {f : By} :
    CallOK P ρ 243 [.pt 0 0, .sn] [⟨true, .by [p, n] 522 f⟩] (.one (.b true)) [⟨true, .by [p, n] 522 f⟩] := by
  refine call_of_vc B.fn B.mo E.1 rfl rfl ?_
  refine ⟨1, rfl, ?_⟩
  refine .inl ⟨2, [0, 1], [.sn, .fn 244 [] [(1, 0)]], [⟨true, .by [p, n] 522 f⟩, ⟨true, .vr (.pt 0 0)⟩], _, _, [_, _], rfl, x_ContainsFunc_nil B (by first | exact E.2 | exact E.2.2) (by simp) rfl rfl, rfl, ⟨⟨_, rfl, fun h => by first | rfl | cases h⟩, ⟨_, rfl, fun h => by first | rfl | cases h⟩, trivial⟩, rfl, rfl, ?_⟩
  exact ⟨rfl, [], rfl, rfl, ⟨rfl, trivial⟩, rfl, rfl⟩

theorem i_Algebra_code_n0_ok (B : Bs P ρ) (E : E_i_Algebra_code P ρ) {n p : Int} {f : By} :
    CallOK P ρ 240 [.pt 0 0, .sn] [⟨true, .by [p, n] 522 f⟩] (.one (.i .i64 (oc (Alg p n f) 1))) [⟨true, .by [p, n] 522 f⟩] := by
  refine call_of_vc B.fn B.mo E.1 rfl rfl ?_
  refine .inl ⟨1, [], _, _, _, _, [_], rfl, i_IsAlgebra_ok B E.2.1 , rfl, trivial, rfl, rfl, ?_⟩
  refine ⟨fun h9 => ?_, fun h9 => ?_⟩
  · skip
    refine brB_t ?_
    refine brB_t ?_
    refine .inl ⟨1, [0], _, _, _, _, [_], rfl, i_Algebra_has_n0_ok B E.2.2.1 , rfl, ⟨⟨_, rfl, fun h => by first | rfl | cases h⟩, trivial⟩, rfl, rfl, ?_⟩
    refine brB_t ?_
    refine .inl ⟨1, [], _, _, _, _, [_], rfl, i_unless_ok B E.2.2.2 , rfl, trivial, rfl, rfl, ?_⟩
    refine ⟨rfl, [], ?_, rfl, ⟨rfl, trivial⟩, rfl, rfl⟩
    rw [oc_t (dec_elim_t h9)]; rfl
  · skip
    refine brB_f ?_
    refine brB_f ?_
    refine brB_f ?_
    refine .inl ⟨1, [], _, _, _, _, [_], rfl, i_unless_ok B E.2.2.2 , rfl, trivial, rfl, rfl, ?_⟩
    refine ⟨rfl, [], ?_, rfl, ⟨rfl, trivial⟩, rfl, rfl⟩
    rw [oc_f (dec_elim_t' h9)]; rfl


theorem i_Algebra_opposite_ok (B : Bs P ρ) (E : F_i_Algebra_opposite P ρ) {p n : Int} {f : By} :
    CallOK P ρ 438 [.ag [p, n] 522 f] [] (.one (.ag [p, n] 522 (opF f))) [] := by
  refine (CallR.pure (call_of_q B.fn B.mo E rfl (fun _ _ => ?_) rfl) rfl).ok
  refine ⟨_, rfl, ?_⟩
  refine ⟨_, rfl, ?_⟩
  refine .inl ⟨_, _, _, _, rfl, ⟨rfl, by omega⟩, ?_⟩
  refine ⟨_, rfl, ?_⟩
  refine ⟨_, _, _, rfl, cputs_2, eqBk_rfl, ?_⟩
  refine ⟨Unit, (fun a1 a2 a3 (i0 : Nat) (x0 : Unit) => [(1, a1), (2, a2), (3, a3), (7, .one (.i .i64 ((i0 : Nat) : Int)))]) _ _ _ , fun (i0 : Nat) (x0 : Unit) (G0 : List Blk) => (∃ w, G0 = [⟨false, .by [p, n] 522 f⟩, ⟨false, (Zk.by 2 522).bk⟩, ⟨false, .by [p, n] 522 w⟩] ∧ ∀ x, x < 522 → w x = if 10 ≤ x ∧ (x - 10) / 64 < i0 then opF f x else f x), 8, ⟨(), ⟨_, rfl, fun x hx => by rw [if_neg (by omega)]⟩, ⟨rfl, rfl, rfl, rfl, trivial⟩⟩, ?_⟩
  rintro i0 _ G0 hi0 ⟨w0, rfl, hw0⟩
  refine ⟨fun h8 => ?_, fun h8 => ?_⟩
  · replace h8 := of_decide_eq_true h8
    refine ⟨Unit, (fun a1 a2 a3 a4 a7 (i1 : Nat) (x1 : Unit) => [(1, a1), (2, a2), (3, a3), (4, a4), (7, a7), (10, .one (.i .i64 ((i1 : Nat) : Int)))]) _ _ _ _ _ , fun (i1 : Nat) (x1 : Unit) (G1 : List Blk) => (∃ w, G1 = [⟨false, .by [p, n] 522 f⟩, ⟨false, (Zk.by 2 522).bk⟩, ⟨false, .by [p, n] 522 w⟩] ∧ ∀ x, x < 522 → w x = if 10 ≤ x ∧ ((x - 10) / 64 < i0 ∨ ((x - 10) / 64 = i0 ∧ (x - 10) / 8 % 8 < i1)) then opF f x else f x), 8, ⟨(), ⟨_, rfl, fun x hx => by rw [hw0 x hx]; exact ifc (by omega)⟩, ⟨rfl, rfl, rfl, rfl, rfl, rfl, trivial⟩⟩, ?_⟩
    rintro i1 _ G1 hi1 ⟨w1, rfl, hw1⟩
    refine ⟨fun h11 => ?_, fun h11 => ?_⟩
    · replace h11 := of_decide_eq_true h11
      refine ⟨i1, _, rfl, by omega, rfl, ?_⟩
      refine ⟨i0, _, rfl, by omega, rfl, ?_⟩
      refine ⟨_, _, _, _, sh f (10 + i1 * 64 + i0 * 8), rfl, ⟨by simp <;> omega, by omega⟩, fun x hx => by show f _ = f _; congr 1 <;> omega, ?_⟩
      refine ⟨i0, _, rfl, by omega, rfl, ?_⟩
      refine ⟨i1, _, rfl, by omega, rfl, ?_⟩
      refine ⟨_, _, _, rfl, cputs_by (by simp <;> omega) (by omega), eqBk_rfl, ?_⟩
      refine ⟨((i1 + 1 : Nat) : Int), w64_id _ (by omega) (by omega), ?_⟩
      refine ⟨by omega, (), ?_, ⟨rfl, rfl, rfl, rfl, rfl, rfl, trivial⟩⟩
      refine ⟨_, rfl, fun x hx => ?_⟩
      unfold spl
      by_cases e : 0 + 10 + i0 * 64 + i1 * 8 ≤ x ∧ x < 0 + 10 + i0 * 64 + i1 * 8 + 8
      · rw [if_pos e, if_pos (by omega)]
        unfold opF sh
        rw [if_neg (by omega)]
        exact congrArg f (by omega)
      · rw [if_neg e, hw1 x hx]
        exact ifc (by omega)
    · replace h11 := of_decide_eq_false h11
      have e1 : 8 = i1 := by omega
      subst e1
      refine ⟨((i0 + 1 : Nat) : Int), w64_id _ (by omega) (by omega), ?_⟩
      exact ⟨by omega, (), ⟨_, rfl, fun x hx => by rw [hw1 x hx]; exact ifc (by omega)⟩, ⟨rfl, rfl, rfl, rfl, trivial⟩⟩
  · replace h8 := of_decide_eq_false h8
    have e0 : 8 = i0 := by omega
    subst e0
    refine .inl ⟨_, _, _, _, rfl, ⟨rfl, by omega⟩, ?_⟩
    refine ⟨_, _, .by [p, n] 522 (opF f), rfl, cputs_2, ⟨rfl, rfl, fun x h1 h2 => ?_⟩, ?_⟩
    · have h2 : x < 522 := h2
      rw [hw0 x h2]
      by_cases e : 10 ≤ x
      · rw [if_pos (by omega)]
      · rw [if_neg (by omega)]; unfold opF; rw [if_pos (by omega)]
    exact ⟨rfl, false, _, 522, _, rfl, ⟨rfl, by omega⟩, rfl, Ext.nil⟩

theorem i_IsCommutative_ok (B : Bs P ρ) (E : F_i_IsCommutative P ρ) {p n : Int} {f : By} :
    CallOK P ρ 471 [.ag [p, n] 522 f] [] (.tup [.b (decide (Alg p n f ∧ AlC f)), .i .i64 (oc (Alg p n f) 1)]) [] := by
  refine (CallR.pure (call_of_q B.fn B.mo E.1 rfl (fun _ _ => ?_) rfl) rfl).ok
  refine ⟨_, rfl, ?_⟩
  refine ⟨_, CallOK.at1 (k := 0) rfl (i_Algebra_code_n0_ok B E.2.1 (p := p) (n := n) (f := f)) rfl rfl, ?_⟩
  rintro _ _ ⟨rfl, rfl⟩
  refine ⟨fun h7 => ?_, fun h7 => ?_⟩
  · replace h7 := bne_t h7
    have hA : ¬ Alg p n f := fun z => h7 (oc_t z)
    first
      | exact ⟨rfl, by rw [oc_f hA, decide_eq_false fun z => hA z.1]; rfl, Ext.nil⟩
      | (refine ⟨rfl, ?_, Ext.nil⟩
         have e : eqB 512 (sh (opF f) 10) (sh f 10) = decide (Alg p n f ∧ AlC f) := by
           rw [Bool.eq_iff_iff, eqB_iff, decide_eq_true_eq]
           constructor
           · intro h
             refine ⟨hA, fun i j k hi hj hk => ?_⟩
             have h' : opF f (10 + (j * 64 + i * 8 + k)) = f (10 + (j * 64 + i * 8 + k)) := h _ (by omega)
             unfold opF at h'
             rw [if_neg (by omega)] at h'
             rw [show 10 + i * 64 + j * 8 + k = 10 + (10 + (j * 64 + i * 8 + k) - 10) / 8 % 8 * 64 + (10 + (j * 64 + i * 8 + k) - 10) / 64 * 8 + (10 + (j * 64 + i * 8 + k) - 10) % 8 by omega, h']
             exact congrArg f (by omega)
           · intro h x hx
             show opF f (10 + x) = f (10 + x)
             unfold opF
             rw [if_neg (by omega), h.2 _ _ _ (by omega) (by omega) (by omega)]
             exact congrArg f (by omega)
         rw [oc_t hA, ← e]; rfl)
  · replace h7 := bne_f h7
    have hA : Alg p n f := oc_0 h7
    refine .inl ⟨_, _, _, _, rfl, ⟨rfl, by omega⟩, ?_⟩
    refine ⟨_, i_Algebra_opposite_ok B E.2.2 (p := p) (n := n) (f := f), rfl, ?_⟩
    refine ⟨⟨by simp, by omega⟩, ?_⟩
    refine ⟨_, _, _, _, sh f 10, rfl, ⟨by simp, by omega⟩, fun x hx => rfl, ?_⟩
    first
      | exact ⟨rfl, by rw [oc_f hA, decide_eq_false fun z => hA z.1]; rfl, Ext.nil⟩
      | (refine ⟨rfl, ?_, Ext.nil⟩
         have e : eqB 512 (sh (opF f) 10) (sh f 10) = decide (Alg p n f ∧ AlC f) := by
           rw [Bool.eq_iff_iff, eqB_iff, decide_eq_true_eq]
           constructor
           · intro h
             refine ⟨hA, fun i j k hi hj hk => ?_⟩
             have h' : opF f (10 + (j * 64 + i * 8 + k)) = f (10 + (j * 64 + i * 8 + k)) := h _ (by omega)
             unfold opF at h'
             rw [if_neg (by omega)] at h'
             rw [show 10 + i * 64 + j * 8 + k = 10 + (10 + (j * 64 + i * 8 + k) - 10) / 8 % 8 * 64 + (10 + (j * 64 + i * 8 + k) - 10) / 64 * 8 + (10 + (j * 64 + i * 8 + k) - 10) % 8 by omega, h']
             exact congrArg f (by omega)
           · intro h x hx
             show opF f (10 + x) = f (10 + x)
             unfold opF
             rw [if_neg (by omega), h.2 _ _ _ (by omega) (by omega) (by omega)]
             exact congrArg f (by omega)
         rw [oc_t hA, ← e]; rfl)

end Hf
namespace Hf
open Go Classical
section
variable {p : Int} {n : Nat} {f g : By}
theorem Tab.out (h : Tab p n g 10) {i j k : Nat} (hi : i < 8) (hj : j < 8) (hk : k < 8) (q : n ≤ i ∨ n ≤ j ∨ n ≤ k) : bz g (10 + i * 64 + j * 8 + k) = 0 := by
  rcases q with q | q | q
  · rw [Nat.add_assoc]; exact (h i hi).2 (by omega) (j * 8 + k) (by omega)
  · exact ((h i hi).1 j hj).2 (by omega) k hk
  · exact (((h i hi).1 j hj).1 k hk).2 (by omega)
theorem Tab.bd (h : Tab p n g 10) {i j k : Nat} (hi : i < 8) (hj : j < 8) (hk : k < 8) : bz g (10 + i * 64 + j * 8 + k) < p := (((h i hi).1 j hj).1 k hk).1
theorem Tab.of (h1 : ∀ i j k : Nat, i < 8 → j < 8 → k < 8 → bz g (10 + i * 64 + j * 8 + k) < p) (h2 : ∀ i j k : Nat, i < 8 → j < 8 → k < 8 → (n ≤ i ∨ n ≤ j ∨ n ≤ k) → bz g (10 + i * 64 + j * 8 + k) = 0) : Tab p n g 10 := by
  intro i hi
  refine ⟨fun j hj => ⟨fun k hk => ⟨h1 i j k hi hj hk, fun q => h2 i j k hi hj hk (by omega)⟩, fun q k hk => h2 i j k hi hj hk (by omega)⟩, fun q k hk => ?_⟩
  have := h2 i (k / 8) (k % 8) hi (by omega) (by omega) (by omega)
  rwa [show 10 + i * 64 + k / 8 * 8 + k % 8 = 10 + i * 64 + k by omega] at this
theorem prd_o (hT : Tab p n g 10) (hn : n ≤ 8) {v w : By} {k : Nat} (hk : k < 8) (h : n ≤ k) : prd n g 10 v w k = 0 :=
  sm_zero fun i hi => sm_zero fun j hj => by rw [hT.out (by omega) (by omega) hk (by omega), Int.mul_zero]
theorem bas_nz {i k : Nat} (h : k ≠ i) : bz (bas i) k = 0 := bz_eq0.2 (by unfold bas; rw [if_neg h])
theorem vec_bas {N : Nat} {X : Nat → Int} {i : Nat} (hp : 2 ≤ p) (hp2 : p ≤ 256) (hi : i < N) (h : ∀ k, k < N → cg p (X k) (bz (bas i) k)) : vec N p X = bas i := by
  funext k
  unfold vec
  by_cases e : k < N
  · rw [if_pos e, show X k % p = bz (bas i) k % p from h k e, Int.emod_eq_of_lt (bz_nn _ _) ?_, byt_bz]
    unfold bz bas
    split
    · show ((1 : UInt8).toNat : Int) < p; show (1 : Int) < p; omega
    · show ((0 : UInt8).toNat : Int) < p; show (0 : Int) < p; omega
  · rw [if_neg e]; unfold bas; rw [if_neg (by omega)]
theorem ofAL (hs : AShp p n g) (A : AL p n) (hm : ∀ i j k, A.m i j k = zc (bz g (10 + i.val * 64 + j.val * 8 + k.val))) (hu : ∀ k, A.u k = zc (bz g (2 + k.val))) : Alg p n g := by
  have hb := AShp.p1 hs
  have hp1 : 1 ≤ p := by omega
  have hp2 : p ≤ 256 := by omega
  have hp3 : 2 ≤ p := hs.1.1.1
  have hn8 : n ≤ 8 := by omega
  refine ⟨hs, fun i hi => ⟨?_, ?_⟩, fun i j k hi hj hk => ?_⟩
  · rw [Int.toNat_natCast]
    have hi : i < n := by omega
    refine vec_bas hp3 hp2 (by omega) fun k hk => ?_
    by_cases hkn : k < n
    · apply zc_eq.1
      rw [prd_r hi, zc_bas (i := ⟨i, hi⟩) (y := ⟨k, hkn⟩)]
      simp only [sf_sm, zc_mul, bz_sh']
      have q := A.ul ⟨i, hi⟩ ⟨k, hkn⟩
      simp only [hu, hm] at q
      exact q
    · rw [prd_o hs.2.2 hn8 hk (by omega), bas_nz (by omega)]; exact cg.rfl'
  · rw [Int.toNat_natCast]
    have hi : i < n := by omega
    refine vec_bas hp3 hp2 (by omega) fun k hk => ?_
    by_cases hkn : k < n
    · apply zc_eq.1
      rw [prd_l hi, zc_bas (i := ⟨i, hi⟩) (y := ⟨k, hkn⟩)]
      simp only [sf_sm, zc_mul, bz_sh']
      have q := A.ur ⟨i, hi⟩ ⟨k, hkn⟩
      simp only [hu, hm] at q
      exact q
    · rw [prd_o hs.2.2 hn8 hk (by omega), bas_nz (by omega)]; exact cg.rfl'
  · rw [Int.toNat_natCast] at hi hj hk ⊢
    refine vec_congr fun y hy => ?_
    by_cases hyn : y < n
    · apply zc_eq.1
      rw [prd_r hk, prd_l hi]
      simp only [sf_sm, zc_mul, bz_sh']
      have q := A.as ⟨i, hi⟩ ⟨j, hj⟩ ⟨k, hk⟩ ⟨y, hyn⟩
      simp only [hm] at q
      exact q
    · rw [prd_o hs.2.2 hn8 hy (by omega), prd_o hs.2.2 hn8 hy (by omega)]; exact cg.rfl'
theorem by_mu {f g : By} (hu : ∀ k, k < 8 → f (2 + k) = g (2 + k)) (hm : ∀ i j k, i < 8 → j < 8 → k < 8 → f (10 + i * 64 + j * 8 + k) = g (10 + i * 64 + j * 8 + k)) : ∀ x, 2 ≤ x → x < 522 → f x = g x := fun x h1 h2 => by
  by_cases e : x < 10
  · have := hu (x - 2) (by omega)
    rwa [show 2 + (x - 2) = x by omega] at this
  · have := hm ((x - 10) / 64) ((x - 10) / 8 % 8) ((x - 10) % 8) (by omega) (by omega) (by omega)
    rwa [show 10 + (x - 10) / 64 * 64 + (x - 10) / 8 % 8 * 8 + (x - 10) % 8 = x by omega] at this
theorem bz_c {f g : By} {a b : Nat} (h : f a = g b) : bz f a = bz g b := by unfold bz; rw [h]
end
end Hf
namespace Hf
open Go Classical
section
variable {p : Int} {n : Nat} {f : By}
def cpV (p : Int) (n : Nat) (f v : By) : By := vec 64 p (cop n f 530 v)
noncomputable def lgL (p : Int) (n : Nat) (f v : By) : List By := rows8 (cpV p n f v) ++ rows8 (trT (cpV p n f v))
def pdV (p : Int) (n : Nat) (f v w : By) : By := vec 8 p (prd n f 10 v w)
def anV (p : Int) (n : Nat) (f v : By) : By := vec 8 p fun y => sm n fun i => bz v i * bz f (1042 + i * 8 + y)
def unV (f : By) : By := fun x => if x < 8 then f (2 + x) else 0
theorem cp_lt (hp : 1 ≤ p) (hp2 : p ≤ 256) {v : By} : ∀ x, x < 64 → bz (cpV p n f v) x < p := fun x _ => bz_vec_lt hp hp2
theorem pd_vp (hp : 1 ≤ p) (hp2 : p ≤ 256) {v w : By} : Vp 8 p (pdV p n f v w) := ⟨fun x => bz_vec_lt hp hp2, fun x hx => vec_out hx⟩
/-- entries of a coproduct -/
theorem cp_add (hp : 1 ≤ p) (hp2 : p ≤ 256) (hn : n ≤ 8) {u w : By} {k : Int} {x : Nat} (hx : x < 64) : cg p (bz (cpV p n f (addW 8 p u w k)) x) (bz (cpV p n f u) x + k * bz (cpV p n f w) x) := by
  refine (cg_vec hp hp2 hx).trans (cg.symm ((cg_add (cg_vec hp hp2 hx) (cg_mul cg.rfl' (cg_vec hp hp2 hx))).trans (cg.symm ?_)))
  unfold cop
  by_cases h : x / 8 < n
  · rw [if_pos h, if_pos h, if_pos h, ← sm_mul, ← sm_add]
    exact cg_sm fun i hi => (cg_mul (cg_add' hp hp2 (by omega)) cg.rfl').trans (cg_of_eq (by grind))
  · rw [if_neg h, if_neg h, if_neg h]; exact cg_of_eq (by omega)
theorem cp_z : cpV p n f z0 = fun _ => 0 := vec_zero fun y _ => by
  unfold cop
  split
  · exact sm_zero fun i _ => by rw [bz_z0, Int.zero_mul]
  · rfl
theorem row_add (hp : 1 ≤ p) (hp2 : p ≤ 256) (hn : n ≤ 8) {u w : By} {k : Int} {j : Nat} (hj : j < 8) : rw8 (cpV p n f (addW 8 p u w k)) j = addW 8 p (rw8 (cpV p n f u) j) (rw8 (cpV p n f w) j) k := by
  refine (rows8_vp (cp_lt hp hp2) hp _ (List.mem_map_of_mem (List.mem_range.2 hj))).ext (Vp.add hp hp2) fun x hx => ?_
  refine cg.trans ?_ (cg_add' hp hp2 hx).symm
  have e : ∀ g : By, bz (rw8 g j) x = bz g (j * 8 + x) := fun g => by unfold bz rw8; rw [if_pos hx]
  rw [e, e, e]
  exact cp_add hp hp2 hn (by omega)
theorem col_add (hp : 1 ≤ p) (hp2 : p ≤ 256) (hn : n ≤ 8) {u w : By} {k : Int} {j : Nat} (hj : j < 8) : rw8 (trT (cpV p n f (addW 8 p u w k))) j = addW 8 p (rw8 (trT (cpV p n f u)) j) (rw8 (trT (cpV p n f w)) j) k := by
  refine (rows8_vp (trT_lt (cp_lt hp hp2)) hp _ (List.mem_map_of_mem (List.mem_range.2 hj))).ext (Vp.add hp hp2) fun x hx => ?_
  refine cg.trans ?_ (cg_add' hp hp2 hx).symm
  have e : ∀ g : By, bz (rw8 (trT g) j) x = bz g (x * 8 + j) := fun g => by unfold bz rw8; rw [if_pos hx, trT_app hj hx]
  rw [e, e, e]
  exact cp_add hp hp2 hn (by omega)
theorem pd_add_l (hp : 1 ≤ p) (hp2 : p ≤ 256) (hn : n ≤ 8) {u w x : By} {k : Int} : pdV p n f (addW 8 p u w k) x = addW 8 p (pdV p n f u x) (pdV p n f w x) k := by
  refine (pd_vp hp hp2).ext (Vp.add hp hp2) fun y hy => ?_
  refine (cg_vec hp hp2 hy).trans (cg.symm ((cg_add' hp hp2 hy).trans ((cg_add (cg_vec hp hp2 hy) (cg_mul cg.rfl' (cg_vec hp hp2 hy))).trans (cg.symm ?_))))
  unfold prd
  rw [← sm_mul, ← sm_add]
  refine cg_sm fun i hi => ?_
  rw [← sm_mul, ← sm_add]
  exact cg_sm fun j hj => (cg_mul (cg_mul (cg_add' hp hp2 (by omega)) cg.rfl') cg.rfl').trans (cg_of_eq (by grind))
theorem pd_add_r (hp : 1 ≤ p) (hp2 : p ≤ 256) (hn : n ≤ 8) {u w x : By} {k : Int} : pdV p n f x (addW 8 p u w k) = addW 8 p (pdV p n f x u) (pdV p n f x w) k := by
  refine (pd_vp hp hp2).ext (Vp.add hp hp2) fun y hy => ?_
  refine (cg_vec hp hp2 hy).trans (cg.symm ((cg_add' hp hp2 hy).trans ((cg_add (cg_vec hp hp2 hy) (cg_mul cg.rfl' (cg_vec hp hp2 hy))).trans (cg.symm ?_))))
  unfold prd
  rw [← sm_mul, ← sm_add]
  refine cg_sm fun i hi => ?_
  rw [← sm_mul, ← sm_add]
  exact cg_sm fun j hj => (cg_mul (cg_mul cg.rfl' (cg_add' hp hp2 (by omega))) cg.rfl').trans (cg_of_eq (by grind))
theorem pd_z_l {x : By} : pdV p n f z0 x = z0 := vec_zero fun y _ => sm_zero fun i _ => sm_zero fun j _ => by rw [bz_z0, Int.zero_mul, Int.zero_mul]
theorem pd_z_r {x : By} : pdV p n f x z0 = z0 := vec_zero fun y _ => sm_zero fun i _ => sm_zero fun j _ => by rw [bz_z0, Int.mul_zero, Int.zero_mul]
theorem an_add (hp : 1 ≤ p) (hp2 : p ≤ 256) (hn : n ≤ 8) {u w : By} {k : Int} : anV p n f (addW 8 p u w k) = addW 8 p (anV p n f u) (anV p n f w) k := cmF_add hp hp2 hn
theorem an_z : anV p n f z0 = z0 := cmF_z

/-- led into itself -/
def LegC (p : Int) (n : Nat) (f : By) (T : List By) : Prop := ∀ u ∈ T, ∀ w ∈ lgL p n f u, Sp' 8 p T w
def Clo (p : Int) (n : Nat) (f : By) (T : List By) : Prop := Sp' 8 p T (unV f) ∧ (∀ u ∈ T, ∀ w ∈ T, Sp' 8 p T (pdV p n f u w)) ∧ LegC p n f T ∧ ∀ u ∈ T, Sp' 8 p T (anV p n f u)
theorem lg_mem {v w : By} : w ∈ lgL p n f v ↔ ∃ j, j < 8 ∧ (w = rw8 (cpV p n f v) j ∨ w = rw8 (trT (cpV p n f v)) j) := by
  unfold lgL rows8
  rw [List.mem_append]
  constructor
  · rintro (h | h) <;> obtain ⟨j, hj, rfl⟩ := List.mem_map.1 h
    · exact ⟨j, List.mem_range.1 hj, .inl rfl⟩
    · exact ⟨j, List.mem_range.1 hj, .inr rfl⟩
  · rintro ⟨j, hj, rfl | rfl⟩
    · exact .inl (List.mem_map_of_mem (List.mem_range.2 hj))
    · exact .inr (List.mem_map_of_mem (List.mem_range.2 hj))
theorem rw8_0 {j : Nat} : rw8 (fun _ => 0) j = z0 := by funext x; unfold rw8 z0; split <;> rfl
theorem trT_0 : ∀ x, x < 64 → trT (fun _ => 0) x = 0 := by
  intro x hx
  have := trT_app (F := fun _ => 0) (a := x / 8) (b := x % 8) (by omega) (by omega)
  rwa [show x / 8 * 8 + x % 8 = x by omega] at this
theorem rw8_t0 {j : Nat} (hj : j < 8) : rw8 (trT (fun _ => 0)) j = z0 := by
  funext x
  unfold rw8
  split
  · exact trT_0 _ (by omega)
  · rfl
/-- the legs of all of a space -/
theorem leg_sp (hp : 1 ≤ p) (hp2 : p ≤ 256) (hn : n ≤ 8) {S T : List By} (h : ∀ u ∈ S, ∀ w ∈ lgL p n f u, Sp' 8 p T w) {v : By} (hv : Sp' 8 p S v) : ∀ w ∈ lgL p n f v, Sp' 8 p T w := by
  induction hv with
  | z =>
    intro w hw
    obtain ⟨j, hj, rfl | rfl⟩ := lg_mem.1 hw
    · rw [cp_z, rw8_0]; exact .z
    · rw [cp_z, rw8_t0 hj]; exact .z
  | a q1 q2 ih =>
    rename_i u w k
    intro x hx
    obtain ⟨j, hj, rfl | rfl⟩ := lg_mem.1 hx
    · rw [row_add hp hp2 hn hj]
      exact (ih _ (lg_mem.2 ⟨j, hj, .inl rfl⟩)).add hp hp2 (h _ q2 _ (lg_mem.2 ⟨j, hj, .inl rfl⟩))
    · rw [col_add hp hp2 hn hj]
      exact (ih _ (lg_mem.2 ⟨j, hj, .inr rfl⟩)).add hp hp2 (h _ q2 _ (lg_mem.2 ⟨j, hj, .inr rfl⟩))
theorem an_sp (hp : 1 ≤ p) (hp2 : p ≤ 256) (hn : n ≤ 8) {S T : List By} (h : ∀ u ∈ S, Sp' 8 p T (anV p n f u)) {v : By} (hv : Sp' 8 p S v) : Sp' 8 p T (anV p n f v) := by
  induction hv with
  | z => rw [an_z]; exact .z
  | a q1 q2 ih => rw [an_add hp hp2 hn]; exact ih.add hp hp2 (h _ q2)
theorem pd_sp (hp : 1 ≤ p) (hp2 : p ≤ 256) (hn : n ≤ 8) {S S' T : List By} (h : ∀ u ∈ S, ∀ w ∈ S', Sp' 8 p T (pdV p n f u w)) {v w : By} (hv : Sp' 8 p S v) (hw : Sp' 8 p S' w) : Sp' 8 p T (pdV p n f v w) := by
  induction hv with
  | z => rw [pd_z_l]; exact .z
  | a q1 q2 ih =>
    rw [pd_add_l hp hp2 hn]
    refine ih.add hp hp2 ?_
    clear ih
    induction hw with
    | z => rw [pd_z_r]; exact .z
    | a r1 r2 ih2 => rw [pd_add_r hp hp2 hn]; exact ih2.add hp hp2 (h _ q2 _ r2)
/-- what a closed space has is led into it -/
theorem LegC.sp (hp : 1 ≤ p) (hp2 : p ≤ 256) (hn : n ≤ 8) {T : List By} (h : LegC p n f T) {v : By} (hv : Sp' 8 p T v) : ∀ w ∈ lgL p n f v, Sp' 8 p T w := leg_sp hp hp2 hn h hv
/-- closed, told by another list of the same space -/
theorem LegC.eq (hp : 1 ≤ p) (hp2 : p ≤ 256) (hn : n ≤ 8) {S T : List By} (hS : ∀ u ∈ S, Vp 8 p u) (e : SpE 8 p S T) (h : LegC p n f T) : LegC p n f S := fun u hu w hw =>
  (e w).2 (h.sp hp hp2 hn ((e u).1 (.mem hp hp2 hu (hS u hu))) w hw)
theorem Clo.eq (hp : 1 ≤ p) (hp2 : p ≤ 256) (hn : n ≤ 8) {S T : List By} (hS : ∀ u ∈ S, Vp 8 p u) (e : SpE 8 p S T) (h : Clo p n f T) : Clo p n f S := by
  have m : ∀ u ∈ S, Sp' 8 p T u := fun u hu => (e u).1 (.mem hp hp2 hu (hS u hu))
  exact ⟨(e _).2 h.1, fun u hu w hw => (e _).2 (pd_sp hp hp2 hn h.2.1 (m u hu) (m w hw)), h.2.2.1.eq hp hp2 hn hS e, fun u hu => (e _).2 (an_sp hp hp2 hn h.2.2.2 (m u hu))⟩
/-- the least closed space that has a list -/
def Gen (p : Int) (n : Nat) (f : By) (L R : List By) : Prop := RR 8 p R ∧ (∀ u ∈ L, Sp' 8 p R u) ∧ Clo p n f R ∧ ∀ T, Clo p n f T → (∀ u ∈ L, Sp' 8 p T u) → ∀ u ∈ R, Sp' 8 p T u
/-- a reduced list is closed if what it generates is as long -/
theorem Gen.sub (hp : 1 ≤ p) (hp2 : p ≤ 256) (hn : n ≤ 8) {L R : List By} (hL : RR 8 p L) (h : Gen p n f L R) : R.length = L.length ↔ Clo p n f L := by
  obtain ⟨q1, q2⟩ := hL.same hp hp2 h.1 h.2.1
  constructor
  · intro e
    exact h.2.2.1.eq hp hp2 hn hL.vp (q2 e.symm)
  · intro c
    have := (h.1.same hp hp2 hL (h.2.2.2 L c fun u hu => .mem hp hp2 hu (hL.vp u hu))).1
    omega
end
end Hf
namespace Hf
open Go Classical
section
variable {p : Int} {n m : Nat} {f g : By}
/-! ### the opposite -/
def AL.op (A : AL p n) : AL p n where
  m i j k := A.m j i k
  u := A.u
  as i j k y := (A.as k j i y).symm
  ul i y := A.ur i y
  ur i y := A.ul i y
theorem opF_m {i j k : Nat} (hi : i < 8) (hj : j < 8) (hk : k < 8) : opF f (10 + i * 64 + j * 8 + k) = f (10 + j * 64 + i * 8 + k) := by
  unfold opF; rw [if_neg (by omega)]; exact congrArg f (by omega)
theorem opF_u {k : Nat} (hk : k < 8) : opF f (2 + k) = f (2 + k) := by unfold opF; rw [if_pos (by omega)]
theorem op_shp (h : AShp p n f) : AShp p n (opF f) :=
  ⟨h.1, fun k hk => by rw [bz_c (opF_u hk)]; exact h.2.1 k hk,
    Tab.of (fun i j k hi hj hk => by rw [bz_c (opF_m hi hj hk)]; exact h.2.2.bd hj hi hk) fun i j k hi hj hk q => by rw [bz_c (opF_m hi hj hk)]; exact h.2.2.out hj hi hk (by omega)⟩
theorem op_alg (h : Alg p n f) : Alg p n (opF f) := by
  have hb := AShp.p1 h.1
  exact ofAL (op_shp h.1) (alOf (by omega) (by omega) (by omega) h).op (fun i j k => congrArg zc (bz_c (opF_m (f := f) (by omega) (by omega) (by omega))).symm) fun k => congrArg zc (bz_c (opF_u (f := f) (by omega))).symm
theorem op_op : ∀ x, 2 ≤ x → x < 522 → opF (opF f) x = f x :=
  by_mu (fun k hk => by rw [opF_u hk, opF_u hk]) fun i j k hi hj hk => by rw [opF_m hi hj hk, opF_m hj hi hk]
theorem op_com : (∀ x, 2 ≤ x → x < 522 → opF f x = f x) ↔ AlC f := by
  constructor
  · intro h i j k hi hj hk
    have q := h (10 + j * 64 + i * 8 + k) (by omega) (by omega)
    rwa [opF_m hj hi hk] at q
  · intro h
    exact by_mu (fun k hk => opF_u hk) fun i j k hi hj hk => by rw [opF_m hi hj hk]; exact (h i j k hi hj hk).symm
/-! ### products -/
def tE (f : By) (i j k : Nat) : Int := bz f (10 + i * 64 + j * 8 + k)
theorem sm_split {x : Nat → Int} {n : Nat} : ∀ {m : Nat}, sm (n + m) x = sm n x + sm m fun z => x (n + z)
  | 0 => (Int.add_zero _).symm
  | m + 1 => by
    show sm (n + m) x + x (n + m) = sm n x + (sm m (fun z => x (n + z)) + x (n + m))
    rw [sm_split, Int.add_assoc]
theorem alg_as (hA : Alg p n f) {i j k y : Nat} (hi : i < 8) (hj : j < 8) (hk : k < 8) (hy : y < 8) : cg p (sm n fun x => tE f i j x * tE f x k y) (sm n fun x => tE f j k x * tE f i x y) := by
  have hb := AShp.p1 hA.1
  have hT := hA.1.2.2
  have hn : n ≤ 8 := by omega
  by_cases h : i < n ∧ j < n ∧ k < n ∧ y < n
  · apply zc_eq.1
    simp only [sf_sm, zc_mul]
    exact (alOf (by omega) (by omega) hn hA).as ⟨i, h.1⟩ ⟨j, h.2.1⟩ ⟨k, h.2.2.1⟩ ⟨y, h.2.2.2⟩
  · have e1 : (sm n fun x => tE f i j x * tE f x k y) = 0 := sm_zero fun x hx => by
      by_cases q : i < n ∧ j < n
      · rw [show tE f x k y = 0 from hT.out (by omega) hk hy (by omega), Int.mul_zero]
      · rw [show tE f i j x = 0 from hT.out hi hj (by omega) (by omega), Int.zero_mul]
    have e2 : (sm n fun x => tE f j k x * tE f i x y) = 0 := sm_zero fun x hx => by
      by_cases q : j < n ∧ k < n
      · rw [show tE f i x y = 0 from hT.out hi (by omega) hy (by omega), Int.mul_zero]
      · rw [show tE f j k x = 0 from hT.out hj hk (by omega) (by omega), Int.zero_mul]
    rw [e1, e2]; exact cg.rfl'
theorem zc_ite {q : Prop} [Decidable q] : (zc (if q then 1 else 0) : Zq p) = if q then zc 1 else zc 0 := by split <;> rfl
theorem alg_ul (hA : Alg p n f) {i y : Nat} (hi : i < 8) (hy : y < 8) : cg p (sm n fun x => bz f (2 + x) * tE f x i y) (if i = y ∧ i < n then 1 else 0) := by
  have hb := AShp.p1 hA.1
  have hT := hA.1.2.2
  have hn : n ≤ 8 := by omega
  by_cases h : i < n ∧ y < n
  · apply zc_eq.1
    rw [zc_ite]
    simp only [sf_sm, zc_mul]
    refine ((alOf (by omega) (by omega) hn hA).ul ⟨i, h.1⟩ ⟨y, h.2⟩).trans ?_
    exact ite_congr (by simp [h.1]) (fun _ => rfl) fun _ => rfl
  · rw [sm_zero fun x hx => by rw [show tE f x i y = 0 from hT.out (by omega) hi hy (by omega), Int.mul_zero], if_neg (by omega)]; exact cg.rfl'
theorem alg_ur (hA : Alg p n f) {i y : Nat} (hi : i < 8) (hy : y < 8) : cg p (sm n fun x => bz f (2 + x) * tE f i x y) (if i = y ∧ i < n then 1 else 0) := by
  have hb := AShp.p1 hA.1
  have hT := hA.1.2.2
  have hn : n ≤ 8 := by omega
  by_cases h : i < n ∧ y < n
  · apply zc_eq.1
    rw [zc_ite]
    simp only [sf_sm, zc_mul]
    refine ((alOf (by omega) (by omega) hn hA).ur ⟨i, h.1⟩ ⟨y, h.2⟩).trans ?_
    exact ite_congr (by simp [h.1]) (fun _ => rfl) fun _ => rfl
  · rw [sm_zero fun x hx => by rw [show tE f i x y = 0 from hT.out hi (by omega) hy (by omega), Int.mul_zero], if_neg (by omega)]; exact cg.rfl'
/-- the product's tables -/
def prF (n m : Nat) (f g : By) : By := pfx n m f g m m 0 0
theorem prF_m (hnm : n + m ≤ 8) {i j k : Nat} (hi : i < 8) (hj : j < 8) (hk : k < 8) : tE (prF n m f g) i j k = if (n ≤ i ∧ i < n + m) ∧ (n ≤ j ∧ j < n + m) ∧ n ≤ k ∧ k < n + m then tE g (i - n) (j - n) (k - n) else tE f i j k := by
  unfold tE prF
  have e1 : (10 + i * 64 + j * 8 + k - 10) / 64 = i := by omega
  have e2 : (10 + i * 64 + j * 8 + k - 10) / 8 % 8 = j := by omega
  have e3 : (10 + i * 64 + j * 8 + k - 10) % 8 = k := by omega
  by_cases h : (n ≤ i ∧ i < n + m) ∧ (n ≤ j ∧ j < n + m) ∧ n ≤ k ∧ k < n + m
  · rw [if_pos h]
    refine bz_c ?_
    unfold pfx
    rw [if_neg (by omega), if_pos (by rw [e1, e2, e3]; omega), e1, e2, e3]
  · rw [if_neg h]
    refine bz_c ?_
    unfold pfx
    rw [if_neg (by omega), if_neg (by rw [e1, e2, e3]; omega)]
theorem prF_u (hnm : n + m ≤ 8) {k : Nat} (hk : k < 8) : bz (prF n m f g) (2 + k) = if n ≤ k ∧ k < n + m then bz g (2 + (k - n)) else bz f (2 + k) := by
  unfold prF
  by_cases h : n ≤ k ∧ k < n + m
  · rw [if_pos h]
    refine bz_c ?_
    unfold pfx
    rw [if_pos (by omega), if_pos (by omega)]
    exact congrArg g (by omega)
  · rw [if_neg h]
    refine bz_c ?_
    unfold pfx
    rw [if_pos (by omega), if_neg (by omega)]
theorem pr_shp (hA : Alg p n f) (hB : Alg p m g) (hnm : n + m ≤ 8) : AShp p ((n + m : Nat) : Int) (prF n m f g) := by
  have hb := AShp.p1 hA.1
  have hT := hA.1.2.2
  have hU := hB.1.2.2
  refine ⟨⟨hA.1.1.1, by omega, by omega⟩, fun k hk => ?_, Tab.of (fun i j k hi hj hk => ?_) fun i j k hi hj hk q => ?_⟩
  · rw [prF_u hnm hk]
    by_cases h : n ≤ k ∧ k < n + m
    · rw [if_pos h]; exact ⟨(hB.1.2.1 (k - n) (by omega)).1, fun q => by omega⟩
    · rw [if_neg h]; exact ⟨(hA.1.2.1 k hk).1, fun q => (hA.1.2.1 k hk).2 (by omega)⟩
  · show tE (prF n m f g) i j k < p
    rw [prF_m hnm hi hj hk]
    split
    · exact hU.bd (by omega) (by omega) (by omega)
    · exact hT.bd hi hj hk
  · show tE (prF n m f g) i j k = 0
    rw [prF_m hnm hi hj hk, if_neg (by omega)]
    exact hT.out hi hj hk (by omega)
theorem prF_lo (hnm : n + m ≤ 8) {i j k : Nat} (hi : i < 8) (hj : j < 8) (hk : k < 8) (h : i < n ∨ j < n ∨ k < n) : tE (prF n m f g) i j k = tE f i j k := by
  rw [prF_m hnm hi hj hk, if_neg (by omega)]
theorem prF_hi (hnm : n + m ≤ 8) {i j k : Nat} (hi : i < n + m) (hj : j < n + m) (hk : k < n + m) (h : n ≤ i ∧ n ≤ j ∧ n ≤ k) : tE (prF n m f g) i j k = tE g (i - n) (j - n) (k - n) := by
  rw [prF_m hnm (by omega) (by omega) (by omega), if_pos (by omega)]
theorem prF_0 (hT : Tab p n f 10) (hnm : n + m ≤ 8) {i j k : Nat} (hi : i < n + m) (hj : j < n + m) (hk : k < n + m) (h : i < n ∨ j < n ∨ k < n) (h' : n ≤ i ∨ n ≤ j ∨ n ≤ k) : tE (prF n m f g) i j k = 0 := by
  rw [prF_lo hnm (by omega) (by omega) (by omega) h]
  exact hT.out (by omega) (by omega) (by omega) (by omega)
theorem pr_as (hA : Alg p n f) (hB : Alg p m g) (hnm : n + m ≤ 8) {i j k y : Nat} (hi : i < n + m) (hj : j < n + m) (hk : k < n + m) (hy : y < n + m) : cg p (sm (n + m) fun x => tE (prF n m f g) i j x * tE (prF n m f g) x k y) (sm (n + m) fun x => tE (prF n m f g) j k x * tE (prF n m f g) i x y) := by
  have hT := hA.1.2.2
  rw [sm_split, sm_split]
  refine cg_add ?_ ?_
  · refine (cg_of_eq (sm_congr fun x hx => ?_)).trans ((alg_as (i := i) (j := j) (k := k) (y := y) hA (by omega) (by omega) (by omega) (by omega)).trans (cg_of_eq (sm_congr fun x hx => ?_)).symm)
    · rw [prF_lo hnm (by omega) (by omega) (by omega) (by omega), prF_lo hnm (by omega) (by omega) (by omega) (by omega)]
    · rw [prF_lo hnm (by omega) (by omega) (by omega) (by omega), prF_lo hnm (by omega) (by omega) (by omega) (by omega)]
  · by_cases h : n ≤ i ∧ n ≤ j ∧ n ≤ k ∧ n ≤ y
    · refine (cg_of_eq (sm_congr fun z hz => ?_)).trans ((alg_as (i := i - n) (j := j - n) (k := k - n) (y := y - n) hB (by omega) (by omega) (by omega) (by omega)).trans (cg_of_eq (sm_congr fun z hz => ?_)).symm)
      · rw [prF_hi hnm hi hj (by omega) (by omega), prF_hi hnm (by omega) hk hy (by omega), Nat.add_sub_cancel_left]
      · rw [prF_hi hnm hj hk (by omega) (by omega), prF_hi hnm hi (by omega) hy (by omega), Nat.add_sub_cancel_left]
    · refine (cg_of_eq (sm_zero fun z hz => ?_)).trans (cg_of_eq (sm_zero fun z hz => ?_)).symm
      · by_cases q : n ≤ i ∧ n ≤ j
        · rw [prF_0 (i := n + z) hT hnm (by omega) hk hy (by omega) (by omega), Int.mul_zero]
        · rw [prF_0 (i := i) hT hnm hi hj (by omega) (by omega) (by omega), Int.zero_mul]
      · by_cases q : n ≤ j ∧ n ≤ k
        · rw [prF_0 (i := i) hT hnm hi (by omega) hy (by omega) (by omega), Int.mul_zero]
        · rw [prF_0 (i := j) hT hnm hj hk (by omega) (by omega) (by omega), Int.zero_mul]
theorem pr_ul (hA : Alg p n f) (hB : Alg p m g) (hnm : n + m ≤ 8) (b : Bool) {i y : Nat} (hi : i < n + m) (hy : y < n + m) : cg p (sm (n + m) fun x => bz (prF n m f g) (2 + x) * (if b = true then tE (prF n m f g) x i y else tE (prF n m f g) i x y)) (if i = y then 1 else 0) := by
  have hT := hA.1.2.2
  rw [sm_split]
  have h1 : cg p (sm n fun x => bz (prF n m f g) (2 + x) * (if b = true then tE (prF n m f g) x i y else tE (prF n m f g) i x y)) (if i = y ∧ i < n then 1 else 0) := by
    cases b
    · refine (cg_of_eq (sm_congr fun x hx => ?_)).trans (alg_ur (i := i) (y := y) hA (by omega) (by omega))
      rw [prF_u hnm (by omega), if_neg (by omega), if_neg (by simp), prF_lo hnm (by omega) (by omega) (by omega) (by omega)]
    · refine (cg_of_eq (sm_congr fun x hx => ?_)).trans (alg_ul (i := i) (y := y) hA (by omega) (by omega))
      rw [prF_u hnm (by omega), if_neg (by omega), if_pos rfl, prF_lo hnm (by omega) (by omega) (by omega) (by omega)]
  have h2 : cg p (sm m fun z => bz (prF n m f g) (2 + (n + z)) * (if b = true then tE (prF n m f g) (n + z) i y else tE (prF n m f g) i (n + z) y)) (if i = y ∧ n ≤ i then 1 else 0) := by
    by_cases h : n ≤ i ∧ n ≤ y
    · have e : (if i - n = y - n ∧ i - n < m then (1 : Int) else 0) = if i = y ∧ n ≤ i then 1 else 0 := ite_congr (propext (by omega)) (fun _ => rfl) fun _ => rfl
      cases b
      · refine (cg_of_eq (sm_congr fun z hz => ?_)).trans ((alg_ur (i := i - n) (y := y - n) hB (by omega) (by omega)).trans (cg_of_eq e))
        rw [prF_u hnm (by omega), if_pos (by omega), if_neg (by simp), prF_hi hnm hi (by omega) hy (by omega), Nat.add_sub_cancel_left]
      · refine (cg_of_eq (sm_congr fun z hz => ?_)).trans ((alg_ul (i := i - n) (y := y - n) hB (by omega) (by omega)).trans (cg_of_eq e))
        rw [prF_u hnm (by omega), if_pos (by omega), if_pos rfl, prF_hi hnm (by omega) hi hy (by omega), Nat.add_sub_cancel_left]
    · rw [if_neg (by omega)]
      refine cg_of_eq (sm_zero fun z hz => ?_)
      cases b
      · rw [if_neg (by simp), prF_0 hT hnm hi (by omega) hy (by omega) (by omega), Int.mul_zero]
      · rw [if_pos rfl, prF_0 hT hnm (by omega) hi hy (by omega) (by omega), Int.mul_zero]
  refine (cg_add h1 h2).trans (cg_of_eq ?_)
  by_cases e : i = y
  · by_cases q : i < n
    · rw [if_pos ⟨e, q⟩, if_neg (by omega), if_pos e]; rfl
    · rw [if_neg (by omega), if_pos (by omega), if_pos e]; rfl
  · rw [if_neg (by omega), if_neg (by omega), if_neg e]; rfl
theorem pr_alg (hA : Alg p n f) (hB : Alg p m g) (hnm : n + m ≤ 8) : Alg p ((n + m : Nat) : Int) (prF n m f g) := by
  refine ofAL (pr_shp hA hB hnm) ⟨fun i j k => zc (bz (prF n m f g) (10 + i.val * 64 + j.val * 8 + k.val)), fun k => zc (bz (prF n m f g) (2 + k.val)), fun i j k y => ?_, fun i y => ?_, fun i y => ?_⟩ (fun _ _ _ => rfl) fun _ => rfl
  · have q := zc_eq.2 (pr_as hA hB hnm i.isLt j.isLt k.isLt y.isLt)
    simp only [sf_sm, zc_mul] at q
    exact q
  · have q := zc_eq.2 (pr_ul hA hB hnm true i.isLt y.isLt)
    rw [zc_ite] at q
    simp only [sf_sm, zc_mul, if_true] at q
    exact q.trans (ite_congr (propext Fin.ext_iff.symm) (fun _ => rfl) fun _ => rfl)
  · have q := zc_eq.2 (pr_ul hA hB hnm false i.isLt y.isLt)
    rw [zc_ite] at q
    simp only [sf_sm, zc_mul, Bool.false_eq_true, if_false] at q
    exact q.trans (ite_congr (propext Fin.ext_iff.symm) (fun _ => rfl) fun _ => rfl)
/-! ### the centre -/
def cnI (f : By) (c j k : Nat) : Int := tE f c j k - tE f j c k
def CenD (n : Nat) (p : Int) (f v : By) : Prop := Vp n p v ∧ ∀ j, j < n → ∀ k, k < 8 → cg p (sm n fun c => bz v c * cnI f c j k) 0
noncomputable def cenK (p : Int) (n : Nat) (f : By) : List By := kerL p n (eqnL p n (n * n) fun t c => cnI f c (t / n) (t % n))
theorem cenK_iff (hp : Pr p) (hn : n ≤ 8) (hT : Tab p n f 10) {v : By} : Sp' 8 p (cenK p n f) v ↔ CenD n p f v := by
  have h2 := hp.1
  have h3 := hp.2.1
  unfold cenK
  rw [kerL_iff hp hn (eqnL_vp (by omega) (by omega))]
  refine and_congr Iff.rfl ?_
  have e : ∀ j k, cg p (dt n (vec n p fun c => cnI f c j k) v) (sm n fun c => bz v c * cnI f c j k) := fun i k => cg_sm fun j hj => (cg_mul (cg_vec (by omega) (by omega) hj) cg.rfl').trans (cg_of_eq (Int.mul_comm _ _))
  constructor
  · intro h i hi k hk
    by_cases hkn : k < n
    · have hm : vec n p (fun c => cnI f c i k) ∈ eqnL p n (n * n) fun t c => cnI f c (t / n) (t % n) := by
        unfold eqnL
        refine List.mem_map.2 ⟨i * n + k, List.mem_range.2 ?_, ?_⟩
        · have := Nat.mul_le_mul_right n (show i + 1 ≤ n by omega)
          rw [Nat.add_mul, Nat.one_mul] at this; omega
        · dsimp only
          rw [show (i * n + k) / n = i by rw [Nat.mul_comm, Nat.mul_add_div (by omega), Nat.div_eq_of_lt hkn, Nat.add_zero], show (i * n + k) % n = k by rw [Nat.mul_comm, Nat.mul_add_mod, Nat.mod_eq_of_lt hkn]]
      exact (e i k).symm.trans (h _ hm)
    · refine cg_of_eq (sm_zero fun c hc => ?_)
      unfold cnI
      rw [show tE f c i k = 0 from hT.out (by omega) (by omega) hk (by omega), show tE f i c k = 0 from hT.out (by omega) (by omega) hk (by omega)]; exact Int.mul_zero _
  · intro h u hu
    obtain ⟨t, ht, rfl⟩ := List.mem_map.1 hu
    have ht := List.mem_range.1 ht
    have hn0 : 0 < n := Nat.pos_of_ne_zero fun e => by subst e; simp at ht
    have := Nat.mod_lt t hn0
    exact (e _ _).trans (h _ (Nat.div_lt_of_lt_mul ht) _ (by omega))
theorem cenK_rr (hp : Pr p) (hn : n ≤ 8) : RR 8 p (cenK p n f) := kerL_rr hp hn fun v hv => (eqnL_vp (by have := hp.1; omega) (by have := hp.2.1; omega) v hv).mono hn
theorem fst_bas {i : Nat} (hi : i < 8) : fstW 8 (bas i) = i := fstW_eq hi (by unfold bas; rw [if_pos rfl]; decide) fun y hy => by unfold bas; rw [if_neg (by omega)]
theorem whole_rr (hp : 2 ≤ p) (hn : n ≤ 8) : RR 8 p ((List.range n).map bas) := by
  refine ⟨fun r hr => ?_, fun r hr => ?_, ?_⟩
  · obtain ⟨i, hi, rfl⟩ := List.mem_map.1 hr
    exact bas_vp hp (by have := List.mem_range.1 hi; omega)
  · obtain ⟨i, hi, rfl⟩ := List.mem_map.1 hr
    have := List.mem_range.1 hi
    rw [fst_bas (by omega)]
    exact ⟨by omega, by unfold bas; rw [if_pos rfl]⟩
  · rw [List.pairwise_map]
    have q : (List.range n).Pairwise fun a b => a < b ∧ b < n := by
      have h1 : (List.range n).Pairwise (· < ·) := List.pairwise_lt_range
      refine List.Pairwise.imp_of_mem (fun ha hb h => ⟨h, List.mem_range.1 hb⟩) h1
    refine q.imp fun h => ?_
    rw [fst_bas (by omega), fst_bas (by omega)]
    exact ⟨h.1, by unfold bas; rw [if_neg (by omega)]⟩
theorem un_vpn (h : Vec p n f 2) (hn : n ≤ 8) (hp : 1 ≤ p) : Vp n p (unV f) := by
  refine ⟨fun x => ?_, fun x hx => ?_⟩
  · unfold bz unV
    split
    · exact (h x (by omega)).1
    · show (0 : Int) < p; omega
  · unfold unV
    split
    · exact bz_eq0.1 ((h x (by omega)).2 (by omega))
    · rfl
theorem cen_unit (h : Alg p n f) : CenD n p f (unV f) := by
  have hb := AShp.p1 h.1
  refine ⟨un_vpn h.1.2.1 (by omega) (by omega), fun j hj k hk => ?_⟩
  have e : (sm n fun c => bz (unV f) c * cnI f c j k) = (sm n fun c => bz f (2 + c) * tE f c j k) + -1 * sm n fun c => bz f (2 + c) * tE f j c k := by
    rw [← sm_mul, ← sm_add]
    refine sm_congr fun c hc => ?_
    rw [show bz (unV f) c = bz f (2 + c) from bz_c (by unfold unV; rw [if_pos (by omega)])]
    unfold cnI
    grind
  rw [e]
  refine (cg_add (alg_ul h (by omega) hk) (cg_mul (a := -1) (b := -1) cg.rfl' (alg_ur h (by omega) hk))).trans (cg_of_eq ?_)
  omega
theorem cen_put (h : Alg p n f) : redL p (cenK p n f ++ [unV f]) = cenK p n f := by
  have hb := AShp.p1 h.1
  have hp := h.1.1.1
  have hr := cenK_rr (f := f) hp (show n ≤ 8 by omega)
  have hu := (cenK_iff hp (show n ≤ 8 by omega) h.1.2.2).2 (cen_unit h)
  have hv : ∀ v ∈ cenK p n f ++ [unV f], Vp 8 p v := fun v hv => by
    rcases List.mem_append.1 hv with q | q
    · exact hr.vp v q
    · rw [List.mem_singleton.1 q]; exact hu.vp (by omega) (by omega)
  obtain ⟨r1, r2⟩ := redL_rr hp hv
  refine r1.unique (by omega) (by omega) hr (r2.trans (SpE.of (by omega) (by omega) (fun v q => ?_) fun v q => .mem (by omega) (by omega) (List.mem_append_left _ q) (hr.vp v q)))
  rcases List.mem_append.1 q with q | q
  · exact .mem (by omega) (by omega) q (hr.vp v q)
  · rw [List.mem_singleton.1 q]; exact hu
theorem cg_sub0 {a b : Int} (ha : 0 ≤ a) (ha2 : a < p) (hb : 0 ≤ b) (hb2 : b < p) (h : cg p (a - b) 0) : a = b := by
  have q : cg p (a - b + b) (0 + b) := cg_add h cg.rfl'
  rw [Int.sub_add_cancel, Int.zero_add] at q
  unfold cg at q
  rwa [Int.emod_eq_of_lt ha ha2, Int.emod_eq_of_lt hb hb2] at q
theorem cen_com (h : Alg p n f) : (cenK p n f).length = n ↔ AlC f := by
  have hb := AShp.p1 h.1
  have hp := h.1.1.1
  have h2 := hp.1
  have hn : n ≤ 8 := by omega
  have hT := h.1.2.2
  have hr := cenK_rr (f := f) hp hn
  have hw := whole_rr (p := p) h2 hn
  constructor
  · intro e
    have q := (RR.same (by omega) (by omega) hr hw fun u hu => (whole_iff h2 (by omega) hn).2 ((cenK_iff hp hn hT).1 (.mem (by omega) (by omega) hu (hr.vp u hu))).1).2 (by simpa using e)
    have q1 : ∀ c j k, c < n → j < n → k < 8 → f (10 + c * 64 + j * 8 + k) = f (10 + j * 64 + c * 8 + k) := fun c j k hc hj hk => by
      have q2 := ((cenK_iff hp hn hT).1 ((q (bas c)).2 ((whole_iff h2 (by omega) hn).2 (bas_vp h2 hc)))).2 j hj k hk
      rw [sm_bas hc] at q2
      exact bz_inj (cg_sub0 (bz_nn _ _) (hT.bd (by omega) (by omega) hk) (bz_nn _ _) (hT.bd (by omega) (by omega) hk) q2)
    intro i j k hi hj hk
    by_cases z : i < n ∧ j < n
    · exact q1 i j k z.1 z.2 hk
    · rw [bz_eq0.1 (hT.out hi hj hk (by omega)), bz_eq0.1 (hT.out hj hi hk (by omega))]
  · intro e
    have q : cenK p n f = (List.range n).map bas := hr.unique (by omega) (by omega) hw fun v => by
      rw [cenK_iff hp hn hT, whole_iff h2 (by omega) hn]
      refine ⟨fun z => z.1, fun z => ⟨z, fun j hj k hk => cg_of_eq (sm_zero fun c hc => ?_)⟩⟩
      unfold cnI tE
      rw [bz_c (e c j k (by omega) (by omega) hk), Int.sub_self, Int.mul_zero]
    rw [q]; simp
end
end Hf
namespace Hf
open Go Classical
variable {P : Program} {ρ : Nat → FuncId}
theorem VI.lt {H : List Blk} {a : At} {L : List Int} (h : VI H a L) : a.lt H.length = true := by
  unfold VI at h
  cases a with
  | sn => rfl
  | sl k o m c => obtain ⟨r, l, h1, -⟩ := h; simp [At.lt, lt_of h1]
  | _ => exact h.elim
theorem eqSt_self {fs : List (Nat × Nat)} {hd : List Int} {f : By} : eqSt fs hd hd f f = true := by
  unfold eqSt
  rw [Bool.and_eq_true]
  exact ⟨by simp, List.all_eq_true.2 fun p _ => eqB_self⟩
theorem eqSt_522 {hd : List Int} {f g : By} (h : ∀ x, 2 ≤ x → x < 522 → f x = g x) : eqSt [(2, 8), (10, 512)] hd hd f g = true := by
  unfold eqSt
  rw [Bool.and_eq_true]
  refine ⟨by simp, List.all_eq_true.2 fun p hp => eqB_iff.2 fun x hx => ?_⟩
  simp only [List.mem_cons, List.not_mem_nil, or_false] at hp
  rcases hp with rfl | rfl
  · exact h (2 + x) (by omega) (by have : x < 8 := hx; omega)
  · exact h (10 + x) (by omega) (by have : x < 512 := hx; omega)
end Hf
namespace Hf
open Go Classical
variable {P : Program} {ρ : Nat → FuncId}
theorem s_DrawOppositeAlgebra_ok (B : Bs P ρ) (E : F_s_DrawOppositeAlgebra P ρ) {H : List Blk} {a : At} (hC : CB H a) :
    CallR P ρ 434 [a] H (fun u G => ∃ (p q : Int) (f : By), u = .one (.ag [p, q] 522 f) ∧ Ext H G) := by
  refine call_of_q B.fn B.mo E.1 rfl (fun hAr hHp => ?_) (by simp only [List.all_cons, List.all_nil, hC.lt]; rfl)
  refine ⟨_, rfl, ?_⟩
  refine ⟨_, s_l01From_ok B E.2.1 (hC.ext Ext.app), ?_⟩
  rintro _ G4 ⟨rfl, hE4, hS4⟩
  have hl4 : (H ++ [(⟨false, (Zk.by 2 522).bk⟩ : Blk)]).length = H.length + 1 := by simp
  refine ⟨_, s_l01Spoil_ok B E.2.2 hS4, ?_⟩
  rintro _ G5 ⟨p, q, f, rfl, hf5, hS5⟩
  have hX : Ext H G5 := (Ext.app.trans hE4).fr' hf5 (by omega)
  have hm := hf5.get (hE4 _ _ get_new) (by omega)
  refine ⟨_, _, _, hm, cputs_2, eqBk_rfl, ?_⟩
  exact ⟨rfl, false, _, 522, _, set_same hm, ⟨rfl, by omega⟩, ⟨_, _, _, rfl, hX.set (by omega)⟩⟩

theorem s_DrawCentreOf_ok (B : Bs P ρ) (E : F_s_DrawCentreOf P ρ) {H : List Blk} {a : At} (hC : CB H a) :
    CallR P ρ 446 [a] H (fun u G => ∃ (p q : Int) (f : By), u = .one (.ag [p, q] 522 f) ∧ Ext H G) := by
  refine call_of_q B.fn B.mo E.1 rfl (fun hAr hHp => ?_) (by simp only [List.all_cons, List.all_nil, hC.lt]; rfl)
  refine ⟨_, rfl, ?_⟩
  refine ⟨_, s_l01From_ok B E.2.1 (hC.ext Ext.app), ?_⟩
  rintro _ G4 ⟨rfl, hE4, hS4⟩
  have hl4 : (H ++ [(⟨false, (Zk.by 2 522).bk⟩ : Blk)]).length = H.length + 1 := by simp
  refine ⟨_, s_l01Spoil_ok B E.2.2 hS4, ?_⟩
  rintro _ G5 ⟨p, q, f, rfl, hf5, hS5⟩
  have hX : Ext H G5 := (Ext.app.trans hE4).fr' hf5 (by omega)
  have hm := hf5.get (hE4 _ _ get_new) (by omega)
  refine ⟨_, _, _, hm, cputs_2, eqBk_rfl, ?_⟩
  exact ⟨rfl, false, _, 522, _, set_same hm, ⟨rfl, by omega⟩, ⟨_, _, _, rfl, hX.set (by omega)⟩⟩

theorem s_DrawIsCommutative_ok (B : Bs P ρ) (E : F_s_DrawIsCommutative P ρ) {H : List Blk} {a : At} (hC : CB H a) :
    CallR P ρ 448 [a] H (fun u G => ∃ (p q : Int) (f : By), u = .one (.ag [p, q] 522 f) ∧ Ext H G) := by
  refine call_of_q B.fn B.mo E.1 rfl (fun hAr hHp => ?_) (by simp only [List.all_cons, List.all_nil, hC.lt]; rfl)
  refine ⟨_, rfl, ?_⟩
  refine ⟨_, s_l01From_ok B E.2.1 (hC.ext Ext.app), ?_⟩
  rintro _ G4 ⟨rfl, hE4, hS4⟩
  have hl4 : (H ++ [(⟨false, (Zk.by 2 522).bk⟩ : Blk)]).length = H.length + 1 := by simp
  refine ⟨_, s_l01Spoil_ok B E.2.2 hS4, ?_⟩
  rintro _ G5 ⟨p, q, f, rfl, hf5, hS5⟩
  have hX : Ext H G5 := (Ext.app.trans hE4).fr' hf5 (by omega)
  have hm := hf5.get (hE4 _ _ get_new) (by omega)
  refine ⟨_, _, _, hm, cputs_2, eqBk_rfl, ?_⟩
  exact ⟨rfl, false, _, 522, _, set_same hm, ⟨rfl, by omega⟩, ⟨_, _, _, rfl, hX.set (by omega)⟩⟩

set_option maxHeartbeats 2000000 in
theorem s_DrawFirstFault_ok (B : Bs P ρ) (E : F_s_DrawFirstFault P ρ) {H : List Blk} {a : At} (hC : CB H a) :
    CallR P ρ 443 [a] H (fun u G => ∃ (p q : Int) (f : By), u = .one (.ag [p, q] 522 f) ∧ Ext H G) := by
  refine call_of_q B.fn B.mo E.1 rfl (fun hAr hHp => ?_) (by simp only [List.all_cons, List.all_nil, hC.lt]; rfl)
  refine ⟨_, rfl, ?_⟩
  refine ⟨_, s_l01From_ok B E.2.1 (hC.ext Ext.app), ?_⟩
  rintro _ G6 ⟨rfl, hE6, hS6⟩
  generalize hs : (H ++ [(⟨false, (Zk.by 2 522).bk⟩ : Blk)]).length = s at hS6
  have hs2 : s = H.length + 1 := by rw [← hs]; simp
  refine ⟨_, s_l01Spoil_ok B E.2.2.1 hS6, ?_⟩
  rintro _ G8 ⟨p, q, f, rfl, hf8, hS8⟩
  have hX8 : Ext H G8 := (Ext.app.trans hE6).fr' hf8 (by omega)
  have hm8 := hf8.get (hE6 _ _ get_new) (by omega)
  have hl8 := hS8.lt
  refine ⟨_, rfl, ?_⟩
  refine ⟨_, _, _, get_new, cputs_2, eqBk_rfl, ?_⟩
  rw [app_set0]
  refine ⟨_, s_l01Next_ok B E.2.2.2.1 (hS8.ext Ext.app), ?_⟩
  rintro _ G10 ⟨z10, rfl, hz10, hf10, hS10⟩
  have hX10 : Ext H G10 := (hX8.trans Ext.app).fr' hf10 (by omega)
  have hm10 := hf10.get (app_old hm8) (by omega)
  have hk := hf10.get (get_new (H := G8) (B := ⟨false, .by [p, q] 522 f⟩)) (by omega)
  refine ⟨fun h12 => ?_, fun h12 => ?_⟩
  · replace h12 := eq_of_beq h12
    refine .inl ⟨_, _, _, _, hk, ⟨rfl, by omega⟩, ?_⟩
    refine brB_t ?_
    refine ⟨_, s_l01Shape_ok B E.2.2.2.2 (p := p) (n := q) (f := f), rfl, ?_⟩
    refine brB_t ?_
    refine ⟨fun h15 => ?_, fun h15 => ?_⟩
    · skip
      have hCg : AShp p q f := of_decide_eq_true h15
      have hq1 := hCg.1.2
      refine ⟨_, _, hk, rfl, ?_⟩
      refine ⟨_, _, hk, rfl, ?_⟩
      refine ⟨_, _, hk, rfl, ?_⟩
      refine ⟨_, _, hk, rfl, ?_⟩
      refine ⟨_, s_l01Next_ok B E.2.2.2.1 hS10, ?_⟩
      rintro _ G19 ⟨z19, rfl, hz19, hf19, hS19⟩
      obtain ⟨x19, rfl⟩ : ∃ x : Nat, z19 = (x : Int) := ⟨z19.toNat, by have := hz19.1; omega⟩
      have hb19 := hz19.2.2 (by omega)
      have hk19 := hf19.get hk (by omega)
      refine ⟨⟨kept1 hk hk19, kept1 hk hk19, kept1 hk hk19, trivial⟩, ?_⟩
      refine ⟨x19, _, rfl, by omega, rfl, ?_⟩
      refine ⟨_, s_l01Next_ok B E.2.2.2.1 hS19, ?_⟩
      rintro _ G23 ⟨z23, rfl, hz23, hf23, hS23⟩
      obtain ⟨x23, rfl⟩ : ∃ x : Nat, z23 = (x : Int) := ⟨z23.toNat, by have := hz23.1; omega⟩
      have hb23 := hz23.2.2 (by omega)
      have hk23 := hf23.get hk19 (by omega)
      refine ⟨⟨kept1 hk19 hk23, kept1 hk19 hk23, kept1 hk19 hk23, trivial⟩, ?_⟩
      refine ⟨x23, _, rfl, by omega, rfl, ?_⟩
      refine ⟨_, s_l01Next_ok B E.2.2.2.1 hS23, ?_⟩
      rintro _ G27 ⟨z27, rfl, hz27, hf27, hS27⟩
      obtain ⟨x27, rfl⟩ : ∃ x : Nat, z27 = (x : Int) := ⟨z27.toNat, by have := hz27.1; omega⟩
      have hb27 := hz27.2.2 (by omega)
      have hk27 := hf27.get hk23 (by omega)
      refine ⟨⟨kept1 hk23 hk27, kept1 hk23 hk27, kept1 hk23 hk27, trivial⟩, ?_⟩
      refine ⟨_, s_l01Next_ok B E.2.2.2.1 hS27, ?_⟩
      rintro _ G31 ⟨z31, rfl, hz31, hf31, hS31⟩
      have hk31 := hf31.get hk27 (by omega)
      refine ⟨x27, _, rfl, by omega, rfl, ?_⟩
      refine ⟨_, _, .by [p, q] 522 (upd f (0 + 10 + x19 * 64 + x23 * 8 + x27 * 1) (byt z31)), hk31, cput_u (by simp <;> omega) (by omega), eqBk_rfl, ?_⟩
      have hkE := set_same (B := ⟨false, .by [p, q] 522 (upd f (0 + 10 + x19 * 64 + x23 * 8 + x27 * 1) (byt z31))⟩) hk31
      have hmE := set_other (B := ⟨false, .by [p, q] 522 (upd f (0 + 10 + x19 * 64 + x23 * 8 + x27 * 1) (byt z31))⟩) (hf31.get (hf27.get (hf23.get (hf19.get hm10 (by omega)) (by omega)) (by omega)) (by omega)) (show G8.length ≠ H.length by omega)
      have hXE := ((((hX10.fr' hf19 (by omega)).fr' hf23 (by omega)).fr' hf27 (by omega)).fr' hf31 (by omega)).set (B := ⟨false, .by [p, q] 522 (upd f (0 + 10 + x19 * 64 + x23 * 8 + x27 * 1) (byt z31))⟩) (show H.length ≤ G8.length by omega)
      refine .inl ⟨_, _, _, _, hkE, ⟨rfl, by omega⟩, ?_⟩
      refine ⟨_, _, _, hmE, cputs_2, eqBk_rfl, ?_⟩
      exact ⟨rfl, false, _, 522, _, set_same hmE, ⟨rfl, by omega⟩, ⟨_, _, _, rfl, hXE.set (by omega)⟩⟩
    · skip
      have hkE := hk
      have hmE := hm10
      have hXE := hX10
      refine .inl ⟨_, _, _, _, hkE, ⟨rfl, by omega⟩, ?_⟩
      refine ⟨_, _, _, hmE, cputs_2, eqBk_rfl, ?_⟩
      exact ⟨rfl, false, _, 522, _, set_same hmE, ⟨rfl, by omega⟩, ⟨_, _, _, rfl, hXE.set (by omega)⟩⟩
  · replace h12 := ne_of_beq_false h12
    refine brB_f ?_
    refine brB_f ?_
    refine brB_f ?_
    have hkE := hk
    have hmE := hm10
    have hXE := hX10
    refine .inl ⟨_, _, _, _, hkE, ⟨rfl, by omega⟩, ?_⟩
    refine ⟨_, _, _, hmE, cputs_2, eqBk_rfl, ?_⟩
    exact ⟨rfl, false, _, 522, _, set_same hmE, ⟨rfl, by omega⟩, ⟨_, _, _, rfl, hXE.set (by omega)⟩⟩

theorem VI.l4 {H : List Blk} {a b c d : Int} {r : Bool} {k : Nat} (h : H[k]? = some ⟨r, .rw [.i .i64 a, .i .i64 b, .i .i64 c, .i .i64 d]⟩) : VI H (.sl k 0 4 4) [a, b, c, d] := ⟨r, _, h, by simp, rfl⟩
theorem s_l01Near_ok (B : Bs P ρ) (E : F_s_l01Near P ρ) {H : List Blk} {s : Nat} {m : Int} (hS : Src H s) (hm : 0 ≤ m) (hm2 : m ≤ 1000) :
    CallR P ρ 450 [.pt s 0, .i .i64 m] H (fun u G => ∃ z : Int, u = .one (.i .i64 z) ∧ Fr [s] H G ∧ Src G s) := by
  refine call_of_q B.fn B.mo E.1 rfl (fun hAr hHp => ?_) (by simp [At.lt, hS.lt])
  refine ⟨_, s_l01Next_ok B E.2.1 hS, ?_⟩
  rintro _ G6 ⟨z6, rfl, hz6, hf6, hS6⟩
  refine ⟨fun h7 => ?_, fun h7 => ?_⟩
  · replace h7 := eq_of_beq h7
    refine ⟨_, w64_id _ (by omega) (by omega), ?_⟩
    refine ⟨_, rfl, ?_⟩
    refine ⟨_, s_l01Pick_ok B E.2.2 (L := [-1, m + 1, 1099511627776, -4611686018427387904]) (hS6.ext Ext.app) (VI.l4 get_new) (by simp [At.lt]) (by have := hS6.lt; simp [spB]; omega) (by simp), ?_⟩
    rintro _ G12 ⟨z12, hz12, rfl, hf12, hS12⟩
    exact ⟨rfl, z12, rfl, (hf6.trans Ext.app.fr).trans hf12, hS12⟩
  · replace h7 := ne_of_beq_false h7
    refine ⟨_, w64_id _ (by omega) (by omega), ?_⟩
    refine ⟨_, s_l01Next_ok B E.2.1 hS6, ?_⟩
    rintro _ G16 ⟨z16, rfl, hz16, hf16, hS16⟩
    exact ⟨rfl, z16, rfl, hf6.trans hf16, hS16⟩

theorem s_DrawIsPrime_ok (B : Bs P ρ) (E : F_s_DrawIsPrime P ρ) {H : List Blk} {a : At} (hC : CB H a) :
    CallR P ρ 451 [a] H (fun u G => ∃ z : Int, u = .one (.i .i64 z) ∧ Ext H G) := by
  refine call_of_q B.fn B.mo E.1 rfl (fun hAr hHp => ?_) (by simp only [List.all_cons, List.all_nil, hC.lt]; rfl)
  refine ⟨_, s_l01From_ok B E.2.1 hC, ?_⟩
  rintro _ G4 ⟨rfl, hE4, hS4⟩
  refine ⟨_, s_l01Near_ok B E.2.2 hS4 (by omega) (by omega), ?_⟩
  rintro _ G5 ⟨z, rfl, hf5, hS5⟩
  exact ⟨rfl, z, rfl, hE4.fr' hf5 (Nat.le_refl _)⟩

set_option maxHeartbeats 1000000 in
theorem s_DrawProductAlgebra_ok (B : Bs P ρ) (E : F_s_DrawProductAlgebra P ρ) {H : List Blk} {a : At} (hC : CB H a) :
    CallR P ρ 472 [a] H (fun u G => ∃ (p q : Int) (f : By) (p2 q2 : Int) (g : By), u = .tup [.ag [p, q] 522 f, .ag [p2, q2] 522 g] ∧ Ext H G) := by
  refine call_of_q B.fn B.mo E.1 rfl (fun hAr hHp => ?_) (by simp only [List.all_cons, List.all_nil, hC.lt]; rfl)
  refine ⟨_, rfl, ?_⟩
  refine ⟨H.length + 1, by simp, ?_⟩
  rw [ap2]
  refine ⟨_, s_l01From_ok B E.2.1 (hC.ext Ext.app), ?_⟩
  rintro _ G8 ⟨rfl, hE8, hS8⟩
  generalize hs : (H ++ [(⟨false, (Zk.by 2 522).bk⟩ : Blk), ⟨false, (Zk.by 2 522).bk⟩]).length = s at hS8
  have hs2 : s = H.length + 2 := by rw [← hs]; simp
  refine ⟨_, s_l01Spoil_ok B E.2.2.1 hS8, ?_⟩
  rintro _ G10 ⟨p, q, f, rfl, hf10, hS10⟩
  refine ⟨_, s_l01Spoil_ok B E.2.2.1 hS10, ?_⟩
  rintro _ G12 ⟨p2, q2, g, rfl, hf12, hS12⟩
  have hX12 : Ext H G12 := ((Ext.app.trans hE8).fr' hf10 (by omega)).fr' hf12 (by omega)
  have hm2 := hf12.get (hf10.get (hE8 _ _ (at_k (i := 0))) (by omega)) (by omega)
  have hm3 := hf12.get (hf10.get (hE8 _ _ (at_k (i := 1))) (by omega)) (by omega)
  have hl12 := hS12.lt
  refine ⟨G12.length + 0, rfl, ?_⟩
  refine ⟨G12.length + 1, by simp, ?_⟩
  rw [ap2]
  refine ⟨_, _, _, at_k, cputs_2, eqBk_rfl, ?_⟩
  rw [app_set]
  refine ⟨_, _, _, at_k, cputs_2, eqBk_rfl, ?_⟩
  rw [app_set]
  refine ⟨_, s_l01Next_ok B E.2.2.2.1 (hS12.ext Ext.app), ?_⟩
  rintro _ G14 ⟨z14, rfl, hz14, hf14, hS14⟩
  have hX14 : Ext H G14 := (hX12.trans Ext.app).fr' hf14 (by omega)
  have hm2E := hf14.get (app_old hm2) (by omega)
  have hm3E := hf14.get (app_old hm3) (by omega)
  have hb5E := hf14.get (at_k (i := 0) (H := G12) (l := [(⟨false, .by [p, q] 522 f⟩ : Blk), ⟨false, .by [p2, q2] 522 g⟩])) (by omega)
  have hb6E := hf14.get (at_k (i := 1) (H := G12) (l := [(⟨false, .by [p, q] 522 f⟩ : Blk), ⟨false, .by [p2, q2] 522 g⟩])) (by omega)
  have hXE := hX14
  refine ⟨fun h15 => ?_, fun h15 => ?_⟩
  · replace h15 := of_decide_eq_true h15
    refine ⟨_, _, hb5E, rfl, ?_⟩
    refine ⟨_, rfl, ?_⟩
    refine ⟨_, rfl, ?_⟩
    refine ⟨_, s_l01Next_ok B E.2.2.2.1 hS14, ?_⟩
    rintro _ G21 ⟨z21, rfl, hz21, hf21, hS21⟩
    refine ⟨⟨kept1 hb5E (hf21.get hb5E (by omega)), trivial⟩, ?_⟩
    obtain ⟨x21, rfl⟩ : ∃ x : Nat, z21 = (x : Int) := ⟨z21.toNat, by have := hz21.1; omega⟩
    have hb21 := hz21.2.2 (by omega)
    refine ⟨((1 + x21 : Nat) : Int), (w64_id _ (by omega) (by omega)).trans (by omega), ?_⟩
    refine ⟨_, s_l01Cyclic_ok B E.2.2.2.2 (n := 1 + x21) (by omega) (by omega), ?_⟩
    rintro _ G23 ⟨⟨f23, rfl⟩, hE23⟩
    have hb623 := hE23 _ _ (hf21.get hb6E (by omega))
    replace hXE := (hX14.fr' hf21 (by omega)).trans hE23
    refine ⟨_, _, _, hb623, cputs_2, eqBk_rfl, ?_⟩
    generalize hGE : G23.set (G12.length + 1) _ = GE
    have hq5 : GE[G12.length + 0]? = some ⟨false, .by [p, q] 522 f⟩ := by rw [← hGE]; exact set_other (hE23 _ _ (hf21.get hb5E (by omega))) (show G12.length + 1 ≠ G12.length + 0 by omega)
    have hq6 : GE[G12.length + 1]? = some ⟨false, .by [mxv true (mxv false p 2) 31, ((1 + x21 : Nat) : Int)] 522 f23⟩ := by rw [← hGE]; exact set_same hb623
    have hq2 : GE[H.length + 0]? = some ⟨false, (Zk.by 2 522).bk⟩ := by rw [← hGE]; exact set_other (hE23 _ _ (hf21.get hm2E (by omega))) (show G12.length + 1 ≠ H.length + 0 by omega)
    have hq3 : GE[H.length + 1]? = some ⟨false, (Zk.by 2 522).bk⟩ := by rw [← hGE]; exact set_other (hE23 _ _ (hf21.get hm3E (by omega))) (show G12.length + 1 ≠ H.length + 1 by omega)
    replace hXE : Ext H GE := by rw [← hGE]; exact hXE.set (show H.length ≤ G12.length + 1 by omega)
    refine .inl ⟨_, _, _, _, hq5, ⟨rfl, by omega⟩, ?_⟩
    refine .inl ⟨_, _, _, _, hq6, ⟨rfl, by omega⟩, ?_⟩
    refine ⟨_, _, _, hq2, cputs_2, eqBk_rfl, ?_⟩
    refine ⟨⟨kept1 hq6 (set_other hq6 (by omega)), trivial⟩, ?_⟩
    refine ⟨_, _, _, set_other hq3 (by omega), cputs_2, eqBk_rfl, ?_⟩
    exact ⟨rfl, false, _, 522, _, set_other (set_same hq2) (by omega), ⟨rfl, by omega⟩, false, _, 522, _, set_same (set_other hq3 (by omega)), ⟨rfl, by omega⟩, ⟨_, _, _, _, _, _, rfl, (hXE.set (by omega)).set (by omega)⟩⟩
  · replace h15 := of_decide_eq_false h15
    have hq5 := hb5E
    have hq6 := hb6E
    have hq2 := hm2E
    have hq3 := hm3E
    refine .inl ⟨_, _, _, _, hq5, ⟨rfl, by omega⟩, ?_⟩
    refine .inl ⟨_, _, _, _, hq6, ⟨rfl, by omega⟩, ?_⟩
    refine ⟨_, _, _, hq2, cputs_2, eqBk_rfl, ?_⟩
    refine ⟨⟨kept1 hq6 (set_other hq6 (by omega)), trivial⟩, ?_⟩
    refine ⟨_, _, _, set_other hq3 (by omega), cputs_2, eqBk_rfl, ?_⟩
    exact ⟨rfl, false, _, 522, _, set_other (set_same hq2) (by omega), ⟨rfl, by omega⟩, false, _, 522, _, set_same (set_other hq3 (by omega)), ⟨rfl, by omega⟩, ⟨_, _, _, _, _, _, rfl, (hXE.set (by omega)).set (by omega)⟩⟩

theorem s_IsPrime_ok (B : Bs P ρ) (E : F_s_IsPrime P ρ) {p : Int} :
    CallOK P ρ 454 [.i .i64 p] [] (.one (.b (decide (Pr p)))) [] := by
  refine (CallR.pure (call_of_q B.fn B.mo E.1 rfl (fun _ _ => ?_) rfl) rfl).ok
  refine ⟨_, s_l01Prime_ok B E.2 (p := p), rfl, ?_⟩
  exact ⟨rfl, rfl, Ext.nil⟩

theorem s_IsAlgebra_ok (B : Bs P ρ) (E : F_s_IsAlgebra P ρ) {p n : Int} {f : By} :
    CallOK P ρ 439 [.ag [p, n] 522 f] [] (.one (.b (decide (Alg p n f)))) [] := by
  refine (CallR.pure (call_of_q B.fn B.mo E.1 rfl (fun _ _ => ?_) rfl) rfl).ok
  refine ⟨_, rfl, ?_⟩
  refine .inl ⟨_, _, _, _, rfl, ⟨rfl, by omega⟩, ?_⟩
  refine ⟨_, s_l01Is_ok B E.2 (p := p) (n := n) (f := f), rfl, ?_⟩
  exact ⟨rfl, rfl, Ext.nil⟩

/-- the opposite, as the reference lays it -/
def opS (n : Nat) (g : By) : By := fun x => if x / 64 < n ∧ x / 8 % 8 < n then g (x / 8 % 8 * 64 + x / 64 * 8 + x % 8) else 0
noncomputable def opV (p n : Int) (f : By) : Sv := .tup [.ag [if Alg p n f then p else 0, if Alg p n f then n else 0] 522 (if Alg p n f then opF f else fun _ => 0), .i .i64 (oc (Alg p n f) 1)]
theorem opV_t {p n : Int} {f : By} (h : Alg p n f) : opV p n f = .tup [.ag [p, n] 522 (opF f), .i .i64 0] := by
  unfold opV; rw [if_pos h, if_pos h, if_pos h, oc_t h]
theorem opV_ex {p n : Int} {f : By} : ∃ a m g, opV p n f = .tup [.ag [a, m] 522 g, .i .i64 (oc (Alg p n f) 1)] ∧ (Alg p n f → p = a ∧ n = m ∧ opF f = g) :=
  ⟨_, _, _, rfl, fun h => ⟨(if_pos h).symm, (if_pos h).symm, (if_pos h).symm⟩⟩
set_option maxHeartbeats 1000000 in
theorem s_l01Opposite_ok (B : Bs P ρ) (E : F_s_l01Opposite P ρ) {n : Nat} {g : By} (hn : n ≤ 8) :
    CallOK P ρ 437 [.i .i64 (n : Int), .ag [] 512 g] [] (.one (.ag [] 512 (opS n g))) [] := by
  refine (CallR.pure (call_of_q B.fn B.mo E rfl (fun _ _ => ?_) rfl) rfl).ok
  refine ⟨_, rfl, ?_⟩
  refine ⟨_, rfl, ?_⟩
  refine ⟨_, rfl, ?_⟩
  refine ⟨_, _, _, rfl, cputs_by (by simp) (by omega), eqBk_rfl, ?_⟩
  refine ⟨Unit, (fun a0 a3 a4 a5 (i0 : Nat) (x0 : Unit) => [(0, a0), (3, a3), (4, a4), (5, a5), (6, .one (.i .i64 ((i0 : Nat) : Int)))]) _ _ _ _ , fun (i0 : Nat) (x0 : Unit) (G0 : List Blk) => (∃ w, G0 = [⟨false, .by [] 512 g⟩, ⟨false, .by [] 512 fun _ => 0⟩, ⟨false, .by [] 512 w⟩] ∧ ∀ x, x < 512 → w x = if x / 64 < i0 ∧ x / 8 % 8 < n then g (x / 8 % 8 * 64 + x / 64 * 8 + x % 8) else 0), n, ⟨(), ⟨_, rfl, fun x hx => by rw [if_neg (by omega)]; simp [spl]⟩, ⟨rfl, rfl, rfl, rfl, rfl, trivial⟩⟩, ?_⟩
  rintro i0 _ G0 hi0 ⟨w0, rfl, hw0⟩
  refine ⟨fun h11 => ?_, fun h11 => ?_⟩
  · replace h11 := of_decide_eq_true h11
    refine ⟨Unit, (fun a0 a3 a4 a5 a6 (i1 : Nat) (x1 : Unit) => [(0, a0), (3, a3), (4, a4), (5, a5), (6, a6), (7, .one (.i .i64 ((i1 : Nat) : Int)))]) _ _ _ _ _ , fun (i1 : Nat) (x1 : Unit) (G1 : List Blk) => (∃ w, G1 = [⟨false, .by [] 512 g⟩, ⟨false, .by [] 512 fun _ => 0⟩, ⟨false, .by [] 512 w⟩] ∧ ∀ x, x < 512 → w x = if (x / 64 < i0 ∧ x / 8 % 8 < n) ∨ (x / 64 = i0 ∧ x / 8 % 8 < i1) then g (x / 8 % 8 * 64 + x / 64 * 8 + x % 8) else 0), n, ⟨(), ⟨_, rfl, fun x hx => by rw [hw0 x hx]; exact ifc (by omega)⟩, ⟨rfl, rfl, rfl, rfl, rfl, rfl, trivial⟩⟩, ?_⟩
    rintro i1 _ G1 hi1 ⟨w1, rfl, hw1⟩
    refine ⟨fun h16 => ?_, fun h16 => ?_⟩
    · replace h16 := of_decide_eq_true h16
      refine ⟨i1, _, rfl, by omega, rfl, ?_⟩
      refine ⟨i0, _, rfl, by omega, rfl, ?_⟩
      refine ⟨_, _, _, _, sh g (i1 * 64 + i0 * 8), rfl, ⟨by simp <;> omega, by omega⟩, fun x hx => by show g _ = g _; congr 1 <;> omega, ?_⟩
      refine ⟨i0, _, rfl, by omega, rfl, ?_⟩
      refine ⟨i1, _, rfl, by omega, rfl, ?_⟩
      refine ⟨_, _, _, rfl, cputs_by (by simp <;> omega) (by omega), eqBk_rfl, ?_⟩
      refine ⟨((i1 + 1 : Nat) : Int), w64_id _ (by omega) (by omega), ?_⟩
      refine ⟨by omega, (), ?_, ⟨rfl, rfl, rfl, rfl, rfl, rfl, trivial⟩⟩
      refine ⟨_, rfl, fun x hx => ?_⟩
      unfold spl
      by_cases e : 0 + i0 * 64 + i1 * 8 ≤ x ∧ x < 0 + i0 * 64 + i1 * 8 + 8
      · rw [if_pos e, if_pos (by omega)]
        unfold sh
        exact congrArg g (by omega)
      · rw [if_neg e, hw1 x hx]
        exact ifc (by omega)
    · replace h16 := of_decide_eq_false h16
      have e1 : n = i1 := by omega
      subst e1
      refine ⟨((i0 + 1 : Nat) : Int), w64_id _ (by omega) (by omega), ?_⟩
      exact ⟨by omega, (), ⟨_, rfl, fun x hx => by rw [hw1 x hx]; exact ifc (by omega)⟩, ⟨rfl, rfl, rfl, rfl, rfl, trivial⟩⟩
  · replace h11 := of_decide_eq_false h11
    have e0 : n = i0 := by omega
    subst e0
    refine ⟨_, _, _, _, opS n g, rfl, ⟨by simp, by omega⟩, fun x hx => by rw [Nat.zero_add, hw0 x hx]; rfl, ?_⟩
    refine ⟨_, _, _, rfl, cputs_by (by simp) (by omega), eqBk_rfl, ?_⟩
    exact ⟨rfl, false, [], 512, _, opS n g, rfl, ⟨by simp, by omega⟩, fun x hx => by simp [spl, hx], rfl, Ext.nil⟩

theorem s_OppositeAlgebra_ok (B : Bs P ρ) (E : F_s_OppositeAlgebra P ρ) {p n : Int} {f : By} :
    CallOK P ρ 435 [.ag [p, n] 522 f] [] (opV p n f) [] := by
  refine (CallR.pure (call_of_q B.fn B.mo E.1 rfl (fun _ _ => ?_) rfl) rfl).ok
  refine ⟨_, rfl, ?_⟩
  refine ⟨_, rfl, ?_⟩
  refine .inl ⟨_, _, _, _, rfl, ⟨rfl, by omega⟩, ?_⟩
  refine ⟨_, s_l01Is_ok B E.2.1 (p := p) (n := n) (f := f), rfl, ?_⟩
  refine ⟨fun h6 => ?_, fun h6 => ?_⟩
  · skip
    have hA : ¬ Alg p n f := fun z => by rw [decide_eq_true z] at h6; cases h6
    refine ⟨_, _, _, rfl, cputs_2, eqBk_rfl, ?_⟩
    first
      | (refine ⟨rfl, false, _, 522, _, rfl, ⟨rfl, by omega⟩, ?_, Ext.nil⟩
         show _ = opV p n f
         unfold opV
         rw [if_neg hA, if_neg hA, if_neg hA, oc_f hA]
         rfl)
      | (refine ⟨rfl, false, _, 522, _, rfl, ⟨rfl, by omega⟩, ?_, Ext.nil⟩
         show _ = opV p n f
         rw [opV_t hA]
         rfl)
  · skip
    have hA : Alg p n f := by simpa using h6
    obtain ⟨n, rfl⟩ : ∃ k : Nat, n = (k : Int) := ⟨n.toNat, by have := hA.1.1.2.1; omega⟩
    have hb := AShp.p1 hA.1
    refine ⟨_, _, rfl, rfl, ?_⟩
    refine ⟨_, _, _, _, sh f 10, rfl, ⟨by simp, by omega⟩, fun x hx => rfl, ?_⟩
    refine ⟨_, s_l01Opposite_ok B E.2.2 (n := n) (g := sh f 10) (by omega), rfl, ?_⟩
    refine ⟨_, _, _, rfl, cputs_by (by simp) (by omega), eqBk_rfl, ?_⟩
    refine .inl ⟨_, _, _, _, rfl, ⟨rfl, by omega⟩, ?_⟩
    refine ⟨_, _, .by [p, (n : Int)] 522 (opF f), rfl, cputs_2, ⟨rfl, rfl, fun x h1 h2 => ?_⟩, ?_⟩
    · have h2 : x < 522 := h2
      unfold spl opF
      by_cases e : x < 10
      · rw [if_pos e, if_neg (by omega)]
      · rw [if_neg e, if_pos (by omega)]
        unfold opS
        have a0 : (x - 10) / 64 < 8 := by omega
        have b0 : (x - 10) / 8 % 8 < 8 := by omega
        have c0 : (x - 10) % 8 < 8 := by omega
        generalize (x - 10) / 64 = i at *
        generalize (x - 10) / 8 % 8 = j at *
        generalize (x - 10) % 8 = k at *
        split
        · unfold sh; exact congrArg f (by omega)
        · exact (bz_eq0.1 (Tab.out (g := f) hA.1.2.2 b0 a0 c0 (by omega))).symm
    first
      | (refine ⟨rfl, false, _, 522, _, rfl, ⟨rfl, by omega⟩, ?_, Ext.nil⟩
         show _ = opV p n f
         unfold opV
         rw [if_neg hA, if_neg hA, if_neg hA, oc_f hA]
         rfl)
      | (refine ⟨rfl, false, _, 522, _, rfl, ⟨rfl, by omega⟩, ?_, Ext.nil⟩
         show _ = opV p n f
         rw [opV_t hA]
         rfl)

theorem i_OppositeAlgebra_ok (B : Bs P ρ) (E : F_i_OppositeAlgebra P ρ) {p n : Int} {f : By} :
    CallOK P ρ 436 [.ag [p, n] 522 f] [] (opV p n f) [] := by
  refine (CallR.pure (call_of_q B.fn B.mo E.1 rfl (fun _ _ => ?_) rfl) rfl).ok
  refine ⟨_, rfl, ?_⟩
  refine ⟨_, rfl, ?_⟩
  refine ⟨_, CallOK.at1 (k := 0) rfl (i_Algebra_code_n0_ok B E.2.1 (p := p) (n := n) (f := f)) rfl rfl, ?_⟩
  rintro _ _ ⟨rfl, rfl⟩
  refine ⟨fun h7 => ?_, fun h7 => ?_⟩
  · replace h7 := bne_t h7
    have hA : ¬ Alg p n f := fun z => h7 (oc_t z)
    refine ⟨_, _, _, rfl, cputs_2, eqBk_rfl, ?_⟩
    first
      | (refine ⟨rfl, false, _, 522, _, rfl, ⟨rfl, by omega⟩, ?_, Ext.nil⟩
         show _ = opV p n f
         unfold opV
         rw [if_neg hA, if_neg hA, if_neg hA, oc_f hA]
         rfl)
      | (refine ⟨rfl, false, _, 522, _, rfl, ⟨rfl, by omega⟩, ?_, Ext.nil⟩
         show _ = opV p n f
         rw [opV_t hA]
         rfl)
  · replace h7 := bne_f h7
    have hA : Alg p n f := oc_0 h7
    refine .inl ⟨_, _, _, _, rfl, ⟨rfl, by omega⟩, ?_⟩
    refine ⟨_, i_Algebra_opposite_ok B E.2.2 (p := p) (n := n) (f := f), rfl, ?_⟩
    refine ⟨_, _, _, rfl, cputs_2, eqBk_rfl, ?_⟩
    first
      | (refine ⟨rfl, false, _, 522, _, rfl, ⟨rfl, by omega⟩, ?_, Ext.nil⟩
         show _ = opV p n f
         unfold opV
         rw [if_neg hA, if_neg hA, if_neg hA, oc_f hA]
         rfl)
      | (refine ⟨rfl, false, _, 522, _, rfl, ⟨rfl, by omega⟩, ?_, Ext.nil⟩
         show _ = opV p n f
         rw [opV_t hA]
         rfl)

set_option maxHeartbeats 1000000 in
theorem s_IsCommutative_ok (B : Bs P ρ) (E : F_s_IsCommutative P ρ) {p n : Int} {f : By} :
    CallOK P ρ 449 [.ag [p, n] 522 f] [] (.tup [.b (decide (Alg p n f ∧ AlC f)), .i .i64 (oc (Alg p n f) 1)]) [] := by
  refine (CallR.pure (call_of_q B.fn B.mo E.1 rfl (fun _ _ => ?_) rfl) rfl).ok
  refine ⟨_, rfl, ?_⟩
  refine .inl ⟨_, _, _, _, rfl, ⟨rfl, by omega⟩, ?_⟩
  refine ⟨_, s_l01Is_ok B E.2 (p := p) (n := n) (f := f), rfl, ?_⟩
  refine ⟨fun h8 => ?_, fun h8 => ?_⟩
  · skip
    have hA : ¬ Alg p n f := fun z => by rw [decide_eq_true z] at h8; cases h8
    exact ⟨rfl, by rw [oc_f hA, decide_eq_false fun z => hA z.1]; rfl, Ext.nil⟩
  · skip
    have hA : Alg p n f := by simpa using h8
    obtain ⟨n, rfl⟩ : ∃ k : Nat, n = (k : Int) := ⟨n.toNat, by have := hA.1.1.2.1; omega⟩
    have hb := AShp.p1 hA.1
    refine ⟨Unit, (fun a1 (i0 : Nat) (x0 : Unit) => [(1, a1), (4, .one (.i .i64 ((i0 : Nat) : Int)))]) _ , fun (i0 : Nat) (x0 : Unit) (G0 : List Blk) => ((∀ i j k : Nat, i < i0 → j < i → k < 8 → f (10 + i * 64 + j * 8 + k) = f (10 + j * 64 + i * 8 + k)) ∧ G0 = [⟨false, .by [p, (n : Int)] 522 f⟩]), n, ⟨(), ⟨fun i j k hi => absurd hi (Nat.not_lt_zero _), rfl⟩, ⟨rfl, rfl, trivial⟩⟩, ?_⟩
    rintro i0 _ G0 hi0 ⟨hF0, rfl⟩
    refine ⟨_, _, rfl, rfl, ?_⟩
    refine ⟨fun h12 => ?_, fun h12 => ?_⟩
    · replace h12 := of_decide_eq_true h12
      refine ⟨Unit, (fun a1 a4 (i1 : Nat) (x1 : Unit) => [(1, a1), (4, a4), (5, .one (.i .i64 ((i1 : Nat) : Int)))]) _ _ , fun (i1 : Nat) (x1 : Unit) (G1 : List Blk) => ((∀ j k : Nat, j < i1 → k < 8 → f (10 + i0 * 64 + j * 8 + k) = f (10 + j * 64 + i0 * 8 + k)) ∧ G1 = [⟨false, .by [p, (n : Int)] 522 f⟩]), i0, ⟨(), ⟨fun j k hi => absurd hi (Nat.not_lt_zero _), rfl⟩, ⟨rfl, rfl, rfl, trivial⟩⟩, ?_⟩
      rintro i1 _ G1 hi1 ⟨hF1, rfl⟩
      refine ⟨fun h17 => ?_, fun h17 => ?_⟩
      · replace h17 := of_decide_eq_true h17
        refine ⟨i0, _, rfl, by omega, rfl, ?_⟩
        refine ⟨i1, _, rfl, by omega, rfl, ?_⟩
        refine ⟨_, _, _, _, sh f (10 + i0 * 64 + i1 * 8), rfl, ⟨by simp <;> omega, by omega⟩, fun x hx => by show f _ = f _; congr 1 <;> omega, ?_⟩
        refine ⟨i1, _, rfl, by omega, rfl, ?_⟩
        refine ⟨i0, _, rfl, by omega, rfl, ?_⟩
        refine ⟨_, _, _, _, sh f (10 + i1 * 64 + i0 * 8), rfl, ⟨by simp <;> omega, by omega⟩, fun x hx => by show f _ = f _; congr 1 <;> omega, ?_⟩
        refine ⟨fun h32 => ?_, fun h32 => ?_⟩
        · skip
          have hN : ¬ AlC f := fun z => neB_t h32 fun x hx => z i0 i1 x (by omega) (by omega) hx
          exact ⟨rfl, by rw [oc_t hA, decide_eq_false fun z => hN z.2]; rfl, Ext.nil⟩
        · skip
          have hE : ∀ k, k < 8 → f (10 + i0 * 64 + i1 * 8 + k) = f (10 + i1 * 64 + i0 * 8 + k) := fun k hk => neB_f h32 k hk
          refine ⟨((i1 + 1 : Nat) : Int), w64_id _ (by omega) (by omega), ?_⟩
          refine ⟨by omega, (), ?_, ⟨rfl, rfl, rfl, trivial⟩⟩
          refine ⟨fun j k hj hk => ?_, rfl⟩
          by_cases e : j = i1
          · subst e; exact hE k hk
          · exact hF1 j k (by omega) hk
      · replace h17 := of_decide_eq_false h17
        have e1 : i0 = i1 := by omega
        subst e1
        refine ⟨((i0 + 1 : Nat) : Int), w64_id _ (by omega) (by omega), ?_⟩
        refine ⟨by omega, (), ?_, ⟨rfl, rfl, trivial⟩⟩
        refine ⟨fun i j k hi hj hk => ?_, rfl⟩
        by_cases e : i = i0
        · subst e; exact hF1 j k hj hk
        · exact hF0 i j k (by omega) hj hk
    · replace h12 := of_decide_eq_false h12
      have e0 : n = i0 := by omega
      subst e0
      refine ⟨rfl, ?_, Ext.nil⟩
      have hAl : AlC f := fun i j k hi hj hk => by
        by_cases z : i < n ∧ j < n
        · rcases Nat.lt_trichotomy i j with e | e | e
          · exact (hF0 j i k (by omega) e hk).symm
          · rw [e]
          · exact hF0 i j k (by omega) e hk
        · rw [bz_eq0.1 (Tab.out (g := f) hA.1.2.2 hi hj hk (by omega)), bz_eq0.1 (Tab.out (g := f) hA.1.2.2 hj hi hk (by omega))]
      rw [oc_t hA, decide_eq_true (⟨hA, hAl⟩ : Alg p n f ∧ AlC f)]; rfl


end Hf
namespace Hf
open Go Classical
variable {P : Program} {ρ : Nat → FuncId}
def AlF (p : Int) (n : Nat) (f : By) : Prop := ¬ ∀ i j k : Nat, i < n → j < n → k < n → Aso p n f i j k
def afP (p : Int) (n : Nat) (f : By) : Prop := ∃ t : Nat × Nat × Nat, Fst n (fun i j k => ¬ Aso p n f i j k) t.1 t.2.1 t.2.2
noncomputable def afQ (p : Int) (n : Nat) (f : By) : List Int := if h : afP p n f then [((Classical.choose h).1 : Int), ((Classical.choose h).2.1 : Int), ((Classical.choose h).2.2 : Int)] else []
theorem afQ_f {p : Int} {n : Nat} {f : By} (h : AlF p n f) : ∃ a b c, Fst n (fun i j k => ¬ Aso p n f i j k) a b c ∧ afQ p n f = [(a : Int), (b : Int), (c : Int)] := by
  have hP : afP p n f := by
    obtain ⟨i, j, k, q⟩ := Fst_ex (n := n) (bad := fun i j k => ¬ Aso p n f i j k) fun z => h fun i j k hi hj hk => Classical.not_not.1 (z i j k hi hj hk)
    exact ⟨(i, j, k), q⟩
  exact ⟨_, _, _, Classical.choose_spec hP, by unfold afQ; rw [dif_pos hP]⟩
theorem AlF.no {p : Int} {n : Nat} {f : By} (h : ¬ AlF p n f) : ∀ i j k : Nat, i < n → j < n → k < n → Aso p n f i j k := Classical.not_not.1 h
theorem afQ_t {p : Int} {n : Nat} {f : By} (h : ¬ AlF p n f) : afQ p n f = [] := by
  unfold afQ
  rw [dif_neg]
  rintro ⟨t, q⟩
  exact q.1.2.2.2 (AlF.no h _ _ _ q.1.1 q.1.2.1 q.1.2.2.1)
theorem s_l01Fault_r (B : Bs P ρ) (E : E_s_l01Fault P ρ) {H : List Blk} {n : Nat} {p : Int} {f : By} (hp : 1 ≤ p) (hp2 : p ≤ 256) (hn : n ≤ 8) :
    CallR P ρ 97 [.ag [p, (n : Int)] 522 f] H fun u G => ∃ b, u = .tup [b, .b (decide (AlF p n f))] ∧ Ext H G ∧ VI G b (afQ p n f) := by
  by_cases h : AlF p n f
  · obtain ⟨a, b, c, h1, h2⟩ := afQ_f h
    refine ((s_l01Fault_f_ok B E hp hp2 hn h1).emb (v' := .tup [.sl H.length 0 3 3, .b true]) (H := H) [] rfl trivial rfl rfl rfl).r.mono ?_
    rintro _ _ ⟨rfl, rfl⟩
    refine ⟨_, by rw [decide_eq_true h], Ext.app, ?_⟩
    rw [h2]
    exact ⟨false, _, get_new, by simp, rfl⟩
  · refine (CallOK.at0 (H := H) (s_l01Fault_t_ok B E hp hp2 hn (AlF.no h)) rfl rfl).mono ?_
    rintro _ _ ⟨rfl, rfl⟩
    refine ⟨_, by rw [decide_eq_false h], Ext.refl, ?_⟩
    rw [afQ_t h]; exact rfl
theorem i_Algebra_fault_r (B : Bs P ρ) (E : E_i_Algebra_fault P ρ) {H : List Blk} {k : Nat} {r : Bool} {n : Nat} {p : Int} {f : By} (hk : H[k]? = some ⟨r, .by [p, (n : Int)] 522 f⟩) (hp : 1 ≤ p) (hp2 : p ≤ 256) (hn : n ≤ 8) :
    CallR P ρ 105 [.pt k 0] H fun u G => ∃ b, u = .one b ∧ (if AlF p n f then ∃ o l c, b = .sl H.length o l c else b = .sn) ∧ Ext H G ∧ VI G b (afQ p n f) := by
  by_cases h : AlF p n f
  · obtain ⟨a, b, c, h1, h2⟩ := afQ_f h
    refine ((i_Algebra_fault_f_ok B E hp hp2 hn h1).emb (v' := .one (.sl H.length 0 3 3)) (H := H) (H' := H ++ [⟨false, .rw [.i .i64 (a : Int), .i .i64 (b : Int), .i .i64 (c : Int)]⟩]) [k] rfl ⟨⟨r, hk, fun h => by cases h⟩, trivial⟩ rfl rfl (by simp [back]; rfl)).r.mono ?_
    rintro _ _ ⟨rfl, rfl⟩
    refine ⟨_, rfl, by rw [if_pos h]; exact ⟨_, _, _, rfl⟩, Ext.app, ?_⟩
    rw [h2]
    exact ⟨false, _, get_new, by simp, rfl⟩
  · refine (CallOK.at1 (args := [.pt k 0]) hk (i_Algebra_fault_t_ok B E hp hp2 hn (AlF.no h)) rfl rfl).mono ?_
    rintro _ _ ⟨rfl, rfl⟩
    refine ⟨_, rfl, by rw [if_neg h], Ext.refl, ?_⟩
    rw [afQ_t h]; exact rfl
noncomputable def afC (p n : Int) (f : By) : Int := if AShp p n f then (if AlF p n.toNat f then 0 else 4) else 1
noncomputable def afL (p n : Int) (f : By) : List Int := if AShp p n f then afQ p n.toNat f else []
/-- the answer of FirstFault -/
def AfV (H : List Blk) (p n : Int) (f : By) (u : Sv) (G : List Blk) : Prop := ∃ b, u = .tup [b, .i .i64 (afC p n f)] ∧ Ext H G ∧ VI G b (afL p n f)
theorem AfV.s {H G : List Blk} {p n : Int} {f : By} {u : Sv} (h : ¬ AShp p n f) (hu : u = .tup [.sn, .i .i64 1]) (hG : Ext H G) : AfV H p n f u G :=
  ⟨.sn, by rw [hu]; unfold afC; rw [if_neg h], hG, by unfold afL; rw [if_neg h]; exact rfl⟩
theorem s_FirstFault_ok (B : Bs P ρ) (E : F_s_FirstFault P ρ) {H : List Blk} {p n : Int} {f : By} :
    CallR P ρ 444 [.ag [p, n] 522 f] H (AfV H p n f) := by
  refine call_of_q B.fn B.mo E.1 rfl (fun hAr hHp => ?_) rfl
  refine ⟨_, rfl, ?_⟩
  refine .inl ⟨_, _, _, _, get_new, ⟨rfl, by omega⟩, ?_⟩
  refine ⟨_, s_l01Shape_ok B E.2.1 (p := p) (n := n) (f := f), rfl, ?_⟩
  refine ⟨fun h8 => ?_, fun h8 => ?_⟩
  · skip
    have hS : ¬ AShp p n f := fun z => by rw [decide_eq_true z] at h8; cases h8
    exact ⟨rfl, AfV.s hS rfl Ext.app⟩
  · skip
    have hS : AShp p n f := by simpa using h8
    obtain ⟨n, rfl⟩ : ∃ k : Nat, n = (k : Int) := ⟨n.toNat, by have := hS.1.2.1; omega⟩
    have hb := AShp.p1 hS
    refine .inl ⟨_, _, _, _, get_new, ⟨rfl, by omega⟩, ?_⟩
    refine ⟨_, s_l01Fault_r B E.2.2 (p := p) (n := n) (f := f) (by omega) (by omega) (by omega), ?_⟩
    rintro _ G11 ⟨b, rfl, hE11, hV11⟩
    refine ⟨fun h15 => ?_, fun h15 => ?_⟩
    · skip
      have hq : ¬ AlF p n f := fun z => by rw [decide_eq_true z] at h15; cases h15
      exact ⟨rfl, .sn, by unfold afC; rw [if_pos hS, if_neg (show ¬ AlF p (n : Int).toNat f from hq)]; rfl, Ext.app.trans hE11, by unfold afL; rw [if_pos hS, show (n : Int).toNat = n from rfl, afQ_t hq]; exact rfl⟩
    · skip
      have hq : AlF p n f := by simpa using h15
      exact ⟨rfl, b, by unfold afC; rw [if_pos hS, if_pos (show AlF p (n : Int).toNat f from hq)]; rfl, Ext.app.trans hE11, by unfold afL; rw [if_pos hS]; exact hV11⟩

theorem i_FirstFault_f_ok (B : Bs P ρ) (E : F_i_FirstFault P ρ) {H : List Blk} {p n : Int} {f : By} (hq : AlF p n.toNat f) :
    CallR P ρ 445 [.ag [p, n] 522 f] H (AfV H p n f) := by
  refine call_of_q B.fn B.mo E.1 rfl (fun hAr hHp => ?_) rfl
  refine ⟨_, rfl, ?_⟩
  refine ⟨_, CallOK.at1 get_new (i_Algebra_isShaped_ok B E.2.1 (p := p) (n := n) (f := f)) rfl rfl, ?_⟩
  rintro _ _ ⟨rfl, rfl⟩
  refine ⟨fun h6 => ?_, fun h6 => ?_⟩
  · skip
    have hS : ¬ AShp p n f := fun z => by rw [decide_eq_true (show Shp p n ∧ Vec p n f 2 ∧ Tab p n f 10 from z)] at h6; cases h6
    exact ⟨rfl, AfV.s hS rfl Ext.app⟩
  · skip
    have hS : AShp p n f := (show Shp p n ∧ Vec p n f 2 ∧ Tab p n f 10 by simpa using h6)
    obtain ⟨n, rfl⟩ : ∃ k : Nat, n = (k : Int) := ⟨n.toNat, by have := hS.1.2.1; omega⟩
    have hb := AShp.p1 hS
    refine ⟨_, i_Algebra_fault_r B E.2.2.1 (p := p) (n := n) (f := f) get_new (by omega) (by omega) (by omega), ?_⟩
    rintro _ G7 ⟨b, rfl, hb7, hE7, hV7⟩
    rw [if_pos (show AlF p n f from hq)] at hb7
    obtain ⟨o7, l7, c7, rfl⟩ := hb7
    refine ⟨_, i_unless_ok B E.2.2.2 (b := true) (c := 4), rfl, ?_⟩
    refine ⟨rfl, _, ?_, Ext.app.trans hE7, by unfold afL; rw [if_pos hS]; exact hV7⟩
    unfold afC; rw [if_pos hS, if_pos hq]; rfl

theorem i_FirstFault_t_ok (B : Bs P ρ) (E : F_i_FirstFault P ρ) {H : List Blk} {p n : Int} {f : By} (hq : ¬ AlF p n.toNat f) :
    CallR P ρ 445 [.ag [p, n] 522 f] H (AfV H p n f) := by
  refine call_of_q B.fn B.mo E.1 rfl (fun hAr hHp => ?_) rfl
  refine ⟨_, rfl, ?_⟩
  refine ⟨_, CallOK.at1 get_new (i_Algebra_isShaped_ok B E.2.1 (p := p) (n := n) (f := f)) rfl rfl, ?_⟩
  rintro _ _ ⟨rfl, rfl⟩
  refine ⟨fun h6 => ?_, fun h6 => ?_⟩
  · skip
    have hS : ¬ AShp p n f := fun z => by rw [decide_eq_true (show Shp p n ∧ Vec p n f 2 ∧ Tab p n f 10 from z)] at h6; cases h6
    exact ⟨rfl, AfV.s hS rfl Ext.app⟩
  · skip
    have hS : AShp p n f := (show Shp p n ∧ Vec p n f 2 ∧ Tab p n f 10 by simpa using h6)
    obtain ⟨n, rfl⟩ : ∃ k : Nat, n = (k : Int) := ⟨n.toNat, by have := hS.1.2.1; omega⟩
    have hb := AShp.p1 hS
    refine ⟨_, i_Algebra_fault_r B E.2.2.1 (p := p) (n := n) (f := f) get_new (by omega) (by omega) (by omega), ?_⟩
    rintro _ G7 ⟨b, rfl, hb7, hE7, hV7⟩
    rw [if_neg (show ¬ AlF p n f from hq)] at hb7
    subst hb7
    refine ⟨_, i_unless_ok B E.2.2.2 (b := false) (c := 4), rfl, ?_⟩
    refine ⟨rfl, _, ?_, Ext.app.trans hE7, by unfold afL; rw [if_pos hS]; exact hV7⟩
    unfold afC; rw [if_pos hS, if_neg hq]; rfl

theorem i_FirstFault_ok (B : Bs P ρ) (E : F_i_FirstFault P ρ) {H : List Blk} {p n : Int} {f : By} : CallR P ρ 445 [.ag [p, n] 522 f] H (AfV H p n f) := by
  by_cases hq : AlF p n.toNat f
  · exact i_FirstFault_f_ok B E hq
  · exact i_FirstFault_t_ok B E hq
theorem afL_len {p n : Int} {f : By} : (afL p n f).length ≤ 100 := by
  unfold afL
  split
  · unfold afQ
    split
    · simp
    · simp
  · simp
theorem l_vectors5_ok (B : Bs P ρ) (E : F_l_vectors5 P ρ) {H : List Blk} {a b : At} {L : List By} (hA : VS H a L) (hB : VS H b L) (hlen : L.length ≤ 100000000) :
    CallR P ρ 453 [a, b] H (fun u G => u = .one (.b true) ∧ G = H) := by
  refine call_of_q B.fn B.mo E rfl (fun hAr hHp => ?_) (by simp only [List.all_cons, List.all_nil, hA.lt, hB.lt]; rfl)
  refine ⟨_, (hA).len, ?_⟩
  refine ⟨_, (hB).len, ?_⟩
  refine ⟨fun h10 => ?_, fun h10 => ?_⟩
  · replace h10 := bne_t h10
    exact absurd rfl h10
  · replace h10 := bne_f h10
    refine ⟨Unit, (fun a0 a1 (i0 : Nat) (x0 : Unit) => [(0, a0), (1, a1), (5, .one (.i .i64 ((i0 : Nat) : Int)))]) _ _ , fun (i0 : Nat) (x0 : Unit) (G0 : List Blk) => (G0 = H), L.length, ⟨(), rfl, ⟨rfl, rfl, rfl, trivial⟩⟩, ?_⟩
    rintro i0 _ G0 hi0 rfl
    refine ⟨_, (hA).len, ?_⟩
    refine ⟨fun h14 => ?_, fun h14 => ?_⟩
    · replace h14 := of_decide_eq_true h14
      obtain ⟨k19, o19, n19, c19, q19, ea19, hl19, hq19, r19, N19, f19, hk19, hN19, hf19⟩ := (hA).at i0 (by omega)
      refine ⟨k19, o19, n19, c19, i0, q19, ea19, rfl, hl19, hq19, ?_⟩
      refine ⟨_, _, _, _, _, hk19, ⟨by simp, hN19⟩, hf19, ?_⟩
      obtain ⟨k23, o23, n23, c23, q23, ea23, hl23, hq23, r23, N23, f23, hk23, hN23, hf23⟩ := (hB).at i0 (by omega)
      refine ⟨k23, o23, n23, c23, i0, q23, ea23, rfl, hl23, hq23, ?_⟩
      refine ⟨_, _, _, _, _, hk23, ⟨by simp, hN23⟩, hf23, ?_⟩
      refine brB_f' (by rw [eqB_self]; rfl) ?_
      refine ⟨((i0 + 1 : Nat) : Int), w64_id _ (by omega) (by omega), ?_⟩
      exact ⟨by omega, (), rfl, ⟨rfl, rfl, rfl, trivial⟩⟩
    · replace h14 := of_decide_eq_false h14
      have e0 : L.length = i0 := by omega
      subst e0
      exact ⟨rfl, rfl, rfl⟩

theorem i_ReduceVectors_1_ok (B : Bs P ρ) (E : F_i_ReduceVectors_1 P ρ) {H : List Blk} {k3 k4 : Nat} {r3 r4 : Bool} {p n : Int} {v : By} (h3 : H[k3]? = some ⟨r3, .vr (.i .i64 p)⟩) (h4 : H[k4]? = some ⟨r4, .vr (.i .i64 n)⟩) :
    CallR P ρ 428 [.ag [] 8 v, .pt k3 0, .pt k4 0] H (fun u G => u = .one (.b (!decide (Shp p n ∧ Vec p n v 0))) ∧ G = H) := by
  refine CallR.pure (call_of_q B.fn B.mo E.1 rfl (fun hA hH => ?_) (by simp [At.lt, lt_of h3, lt_of h4])) rfl
  refine ⟨_, rfl, ?_⟩
  refine ⟨_, _, app_old h3, rfl, ?_⟩
  refine ⟨_, _, app_old h4, rfl, ?_⟩
  refine ⟨_, _, _, _, v, get_new, ⟨by simp, by omega⟩, fun x _ => congrArg _ (Nat.zero_add x).symm, ?_⟩
  refine ⟨_, i_IsVector_ok B E.2 , rfl, ?_⟩
  exact ⟨rfl, rfl, Ext.app⟩

def rvQ (p n : Int) (L : List By) : Prop := Shp p n ∧ ∀ v ∈ L, Vec p n v 0 ∧ ∀ x, 8 ≤ x → v x = 0
theorem rvQ.vp {p : Int} {n : Nat} {L : List By} (h : rvQ p n L) : ∀ v ∈ L, Vp n p v := fun v hv => by
  obtain ⟨h1, h2⟩ := h.2 v hv
  have hp := h.1.1.1
  refine ⟨fun x => ?_, fun x hx => ?_⟩
  · by_cases e : x < 8
    · have := (h1 x e).1; rwa [Nat.zero_add] at this
    · rw [bz_eq0.2 (h2 x (by omega))]; omega
  · by_cases e : x < 8
    · have := (h1 x e).2 (by omega); rw [Nat.zero_add] at this; exact bz_eq0.1 this
    · exact h2 x (by omega)
theorem i_ReduceVectors_ok (B : Bs P ρ) (E : F_i_ReduceVectors P ρ) {H : List Blk} {a : At} {L : List By} {p n : Int} (hL : VS H a L) (hq : rvQ p n L) (hlen : L.length ≤ 1000000) :
    CallR P ρ 412 [.i .i64 p, .i .i64 n, a] H (fun u G => ∃ b, u = .tup [b, .i .i64 0] ∧ Ext H G ∧ VW H.length G b (redL p L)) := by
  obtain ⟨n, rfl⟩ : ∃ k : Nat, n = (k : Int) := ⟨n.toNat, by have := hq.1.2.1; omega⟩
  have hp := hq.1.1
  have hn8 : n ≤ 8 := by have := hq.1.2.2; omega
  refine call_of_q B.fn B.mo E.1 rfl (fun hAr hHp => ?_) (by simp only [List.all_cons, List.all_nil, hL.lt]; rfl)
  refine ⟨_, rfl, ?_⟩
  refine ⟨_, rfl, ?_⟩
  refine ⟨_, x_ContainsFunc_V2_ok B E.2.2.1 (q := fun i => !decide (Shp p n ∧ Vec p n (L.getD i z0) 0)) (hL.ext (Ext.app.trans Ext.app)) (by simp [At.lt]) hlen (fun i hi => i_ReduceVectors_1_ok B E.2.1 (app_old get_new) get_new), ?_⟩
  rintro _ G11 ⟨rfl, rfl⟩
  rw [show decide (∃ i, i < L.length ∧ (!decide (Shp p n ∧ Vec p n (L.getD i z0) 0)) = true) = false from decide_eq_false fun ⟨i, hi, z⟩ => by rw [decide_eq_true (⟨hq.1, (hq.2 _ (getD_mem hi)).1⟩ : Shp p n ∧ Vec p n (L.getD i z0) 0)] at z; cases z]
  refine ⟨_, _, app_old get_new, rfl, ?_⟩
  refine ⟨_, _, get_new, rfl, ?_⟩
  refine ⟨_, i_IsVector_ok B E.2.2.2.1 , rfl, ?_⟩
  rw [decide_eq_true (show Shp p n ∧ Vec p n (fun _ => 0) 0 from ⟨hq.1, fun k hk => ⟨by have := hp.1; show (0 : Int) < p; omega, fun _ => rfl⟩⟩)]
  refine brB_f ?_
  refine brB_f ?_
  refine brB_f ?_
  refine ⟨_, _, app_old get_new, rfl, ?_⟩
  refine ⟨_, i_reduced_ok B E.2.2.2.2 hp (hL.ext (Ext.app.trans Ext.app)) (fun v hv => (hq.vp v hv).mono hn8) hlen, ?_⟩
  rintro _ G22 ⟨b22, rfl, hE22, hV22⟩
  exact ⟨rfl, b22, rfl, (Ext.app.trans Ext.app).trans hE22, hV22.mono (by simp)⟩

theorem i_CentreOf_1_ok (B : Bs P ρ) (E : F_i_CentreOf_1 P ρ) {H : List Blk} {t c k2 k3 n : Nat} {r2 r3 : Bool} {p n' : Int} {f : By} (h2 : H[k2]? = some ⟨r2, .vr (.i .i64 (n : Int))⟩) (h3 : H[k3]? = some ⟨r3, .by [p, n'] 522 f⟩) (ht : t < n * n) (hn : n ≤ 8) (hc : c < n) :
    CallR P ρ 440 [.i .i64 (t : Int), .i .i64 (c : Int), .pt k2 0, .pt k3 0] H (fun u G => u = .one (.i .i64 (cnI f c (t / n) (t % n))) ∧ G = H) := by
  have htd : t / n < n := Nat.div_lt_of_lt_mul ht
  have htm : t % n < n := Nat.mod_lt _ (by omega)
  have htb : t ≤ 64 := Nat.le_trans (Nat.le_of_lt ht) (Nat.mul_le_mul hn hn)
  have hi1 : (0 : Int) ≤ ((t / n : Nat) : Int) := Int.natCast_nonneg _
  have hi2 : (0 : Int) ≤ ((t % n : Nat) : Int) := Int.natCast_nonneg _
  refine call_of_q B.fn B.mo E rfl (fun hAr hHp => ?_) (by simp [At.lt, lt_of h2, lt_of h3])
  refine ⟨_, _, h2, rfl, ?_⟩
  refine ⟨by omega, ((t / n : Nat) : Int), by rw [← Int.ofNat_tdiv]; exact w64_id _ (by omega) (by omega), ?_⟩
  refine ⟨_, _, h2, rfl, ?_⟩
  refine ⟨by omega, ((t % n : Nat) : Int), (Int.ofNat_tmod _ _).symm, ?_⟩
  refine ⟨c, _, rfl, by omega, rfl, ?_⟩
  refine ⟨t / n, _, rfl, by omega, rfl, ?_⟩
  refine ⟨t % n, _, rfl, by omega, rfl, ?_⟩
  refine ⟨_, _, h3, cat_bq (10 + c * 64 + t / n * 8 + t % n) (by omega) (by simp <;> omega) (by omega), ?_⟩
  refine ⟨t / n, _, rfl, by omega, rfl, ?_⟩
  refine ⟨c, _, rfl, by omega, rfl, ?_⟩
  refine ⟨t % n, _, rfl, by omega, rfl, ?_⟩
  refine ⟨_, _, h3, cat_bq (10 + t / n * 64 + c * 8 + t % n) (by omega) (by simp <;> omega) (by omega), ?_⟩
  have hx1 := toNat_le (f (10 + c * 64 + t / n * 8 + t % n))
  have hx2 := toNat_le (f (10 + t / n * 64 + c * 8 + t % n))
  refine ⟨_, w64_id _ (by omega) (by omega), ?_⟩
  exact ⟨rfl, rfl, rfl⟩

noncomputable def ceL (p n : Int) (f : By) : List By := if Alg p n f then cenK p n.toNat f else []
def CeV (H : List Blk) (p n : Int) (f : By) (u : Sv) (G : List Blk) : Prop := ∃ b, u = .tup [b, .i .i64 (oc (Alg p n f) 1)] ∧ Ext H G ∧ VS G b (ceL p n f)
theorem CeV.n {H G : List Blk} {p n : Int} {f : By} {u : Sv} (h : ¬ Alg p n f) (hu : u = .tup [.sn, .i .i64 1]) (hE : Ext H G) : CeV H p n f u G :=
  ⟨.sn, by rw [hu, oc_f h], hE, by unfold ceL; rw [if_neg h]; exact VS.nil⟩
theorem CeV.y {H G : List Blk} {p : Int} {n : Nat} {f : By} {u : Sv} {b : At} (h : Alg p n f) (hu : u = .tup [b, .i .i64 0]) (hE : Ext H G) (hV : VS G b (cenK p n f)) : CeV H p n f u G :=
  ⟨b, by rw [hu, oc_t h], hE, by unfold ceL; rw [if_pos h, Int.toNat_natCast]; exact hV⟩
theorem i_CentreOf_ok (B : Bs P ρ) (E : F_i_CentreOf P ρ) {H : List Blk} {p n : Int} {f : By} :
    CallR P ρ 441 [.ag [p, n] 522 f] H (CeV H p n f) := by
  refine call_of_q B.fn B.mo E.1 rfl (fun hAr hHp => ?_) rfl
  refine ⟨_, rfl, ?_⟩
  refine ⟨_, CallOK.at1 get_new (i_Algebra_code_n0_ok B E.2.1 (p := p) (n := n) (f := f)) rfl rfl, ?_⟩
  rintro _ _ ⟨rfl, rfl⟩
  refine ⟨fun h8 => ?_, fun h8 => ?_⟩
  · replace h8 := bne_t h8
    have hA : ¬ Alg p n f := fun z => h8 (oc_t z)
    exact ⟨rfl, CeV.n hA (by rw [oc_f hA]; rfl) Ext.app⟩
  · replace h8 := bne_f h8
    have hA : Alg p n f := oc_0 h8
    obtain ⟨n, rfl⟩ : ∃ k : Nat, n = (k : Int) := ⟨n.toNat, by have := hA.1.1.2.1; omega⟩
    have hb := AShp.p1 hA.1
    have hn : n ≤ 8 := by omega
    have hnn : n * n ≤ 64 := Nat.mul_le_mul hn hn
    refine ⟨_, _, get_new, rfl, ?_⟩
    refine ⟨_, rfl, ?_⟩
    refine ⟨_, _, _, get_new, rfl, eqBk_rfl, ?_⟩
    rw [app_set0]
    refine ⟨_, _, get_new, rfl, ?_⟩
    refine ⟨_, _, get_new, rfl, ?_⟩
    refine ⟨((n * n : Nat) : Int), (by rw [← Int.natCast_mul]; exact w64_id _ (by omega) (by omega)), ?_⟩
    refine ⟨_, CallOK.at1 (app_old get_new) (i_Algebra_field_ok B E.2.2.1 (p := p) (n := (n : Int)) (f := f)) rfl rfl, ?_⟩
    rintro _ _ ⟨rfl, rfl⟩
    refine ⟨⟨rfl, rfl, trivial⟩, ?_⟩
    refine ⟨_, i_kernel_ok B E.2.2.2.2 (p := p) (n := n) (m := n * n) (co := fun t c => cnI f c (t / n) (t % n)) hA.1.1.1 hn (by omega) (by simp [At.lt]) (fun G i j hE hi hj => i_CentreOf_1_ok B E.2.2.2.1 (hE _ _ get_new) (hE _ _ (app_old get_new)) hi hn hj), ?_⟩
    rintro _ G17 ⟨b17, rfl, hE17, hV17⟩
    exact ⟨rfl, CeV.y hA rfl ((Ext.app.trans Ext.app).trans hE17) hV17.vs⟩

def CenI (n : Nat) (p : Int) (f : By) (i : Nat) (v : By) : Prop := ∀ k, k < 8 → cg p (sm n fun c => bz v c * cnI f c i k) 0
theorem KerM_C {n : Nat} {p : Int} {f w v : By} {i : Nat} (hp : 1 ≤ p) (hp2 : p ≤ 256) (hn : n ≤ 8) (hw : ∀ j, j < n → ∀ k, k < 8 → w (j * 8 + k) = vec 8 p (fun y => cnI f j i y) k) : KerM n p w v ↔ Vp n p v ∧ CenI n p f i v := by
  refine and_congr Iff.rfl ?_
  have e : ∀ k, k < 8 → cg p (sm n fun j => bz v j * bz w (j * 8 + k)) (sm n fun j => bz v j * cnI f j i k) := fun k hk => cg_sm fun j hj => by
    rw [bz_c (hw j hj k hk)]
    exact cg_mul cg.rfl' (cg_vec hp hp2 hk)
  exact ⟨fun h k hk => (e k hk).symm.trans (h k hk), fun h k hk => (e k hk).trans (h k hk)⟩
theorem cn_vec {p : Int} {f : By} {c i : Nat} : (vec 8 p fun y => bz (sh f (10 + c * 64 + i * 8)) y + (-1) * bz (sh f (10 + i * 64 + c * 8)) y) = vec 8 p fun y => cnI f c i y := by
  refine vec_congr fun y hy => cg_of_eq ?_
  show bz f (10 + c * 64 + i * 8 + y) + -1 * bz f (10 + i * 64 + c * 8 + y) = bz f (10 + c * 64 + i * 8 + y) - bz f (10 + i * 64 + c * 8 + y)
  omega
set_option maxHeartbeats 1000000 in
theorem s_CentreOf_ok (B : Bs P ρ) (E : F_s_CentreOf P ρ) {H : List Blk} {p n : Int} {f : By} :
    CallR P ρ 447 [.ag [p, n] 522 f] H (CeV H p n f) := by
  refine call_of_q B.fn B.mo E.1 rfl (fun hAr hHp => ?_) rfl
  refine ⟨_, rfl, ?_⟩
  refine .inl ⟨_, _, _, _, get_new, ⟨rfl, by omega⟩, ?_⟩
  refine ⟨_, s_l01Is_ok B E.2.1 (p := p) (n := n) (f := f), rfl, ?_⟩
  refine ⟨fun h10 => ?_, fun h10 => ?_⟩
  · skip
    have hA : ¬ Alg p n f := fun z => by rw [decide_eq_true z] at h10; cases h10
    exact ⟨rfl, CeV.n hA rfl Ext.app⟩
  · skip
    have hA : Alg p n f := by simpa using h10
    obtain ⟨n, rfl⟩ : ∃ k : Nat, n = (k : Int) := ⟨n.toNat, by have := hA.1.1.2.1; omega⟩
    have hb := AShp.p1 hA.1
    have hn : n ≤ 8 := by omega
    have hp := hA.1.1.1
    have hp2 := hp.1
    refine ⟨_, _, get_new, rfl, ?_⟩
    refine ⟨_, s_l01Whole_ok B E.2.2.1 hn, ?_⟩
    rintro _ G13 ⟨b13, rfl, hE13, hV13⟩
    refine ⟨At × List By, (fun a1 (i0 : Nat) (x0 : At × List By) => match x0 with | ⟨x, K⟩ => [(1, a1), (4, .one x), (5, .one (.i .i64 ((i0 : Nat) : Int)))]) _ , fun (i0 : Nat) (x0 : At × List By) (G0 : List Blk) => match x0 with | ⟨x, K⟩ => (VS G0 x K ∧ (K.length ≤ 8 ∧ ∀ v ∈ K, Vp 8 p v) ∧ (0 < i0 → RR 8 p K) ∧ (∀ v, Sp' 8 p K v ↔ Vp n p v ∧ ∀ i, i < i0 → CenI n p f i v) ∧ Ext (H ++ [⟨false, .by [p, (n : Int)] 522 f⟩]) G0), n, ⟨(_, (List.range n).map bas), ?_, ⟨rfl, rfl, rfl, trivial⟩⟩, ?_⟩
    · refine ⟨hV13, ⟨by simp; omega, fun v hv => ?_⟩, fun h => absurd h (by omega), fun v => (whole_iff (by omega) (by omega) hn).trans ⟨fun h => ⟨h, fun i hi => absurd hi (by omega)⟩, fun h => h.1⟩, hE13⟩
      obtain ⟨i, hi, rfl⟩ := List.mem_map.1 hv
      exact bas_vp (by omega) (by have := List.mem_range.1 hi; omega)
    rintro i0 ⟨x, K⟩ G0 hi0 ⟨hV0, ⟨hKl, hKv⟩, hKr, hKs, hE0⟩
    have hb2 := hE0 _ _ get_new
    refine ⟨_, _, hb2, rfl, ?_⟩
    refine ⟨fun h17 => ?_, fun h17 => ?_⟩
    · replace h17 := of_decide_eq_true h17
      refine ⟨_, rfl, ?_⟩
      refine ⟨_, _, _, get_new, cputs_by (by simp) (by omega), eqBk_rfl, ?_⟩
      rw [app_set0]
      refine ⟨Unit, (fun a1 a4 a5 a6 (i1 : Nat) (x1 : Unit) => [(1, a1), (4, a4), (5, a5), (6, a6), (7, .one (.i .i64 ((i1 : Nat) : Int)))]) _ _ _ _ , fun (i1 : Nat) (x1 : Unit) (G1 : List Blk) => (∃ w, G1[G0.length]? = some ⟨false, .by [] 64 w⟩ ∧ Ext G0 G1 ∧ ∀ x, x < 64 → w x = if x / 8 < i1 then vec 8 p (fun y => cnI f (x / 8) i0 y) (x % 8) else 0), n, ⟨(), ⟨_, get_new, Ext.app, fun x hx => by simp [spl, hx]⟩, ⟨rfl, rfl, rfl, rfl, rfl, trivial⟩⟩, ?_⟩
      rintro i1 _ G1 hi1 ⟨w, hw0, hE1, hw⟩
      have hb2' := hE1 _ _ hb2
      have hl1 := lt_of hw0
      refine ⟨_, _, hb2', rfl, ?_⟩
      refine ⟨fun h24 => ?_, fun h24 => ?_⟩
      · replace h24 := of_decide_eq_true h24
        refine ⟨_, _, hb2', rfl, ?_⟩
        refine ⟨i1, _, rfl, by omega, rfl, ?_⟩
        refine ⟨i0, _, rfl, by omega, rfl, ?_⟩
        refine ⟨_, _, _, _, sh f (10 + i1 * 64 + i0 * 8), hb2', ⟨by simp; omega, by omega⟩, fun y hy => by show f _ = f _; congr 1 <;> omega, ?_⟩
        refine ⟨i0, _, rfl, by omega, rfl, ?_⟩
        refine ⟨i1, _, rfl, by omega, rfl, ?_⟩
        refine ⟨_, _, _, _, sh f (10 + i0 * 64 + i1 * 8), hb2', ⟨by simp; omega, by omega⟩, fun y hy => by show f _ = f _; congr 1 <;> omega, ?_⟩
        refine ⟨_, s_l01Add_ok B E.2.2.2.1 (p := p) (k := -1) (v := sh f (10 + i1 * 64 + i0 * 8)) (w := sh f (10 + i0 * 64 + i1 * 8)) (by omega) (by omega) (by omega) (by omega), rfl, ?_⟩
        rw [cn_vec]
        refine ⟨i1, _, rfl, by omega, rfl, ?_⟩
        refine ⟨_, _, _, hw0, cputs_by (by simp) (by omega), eqBk_rfl, ?_⟩
        refine ⟨((i1 + 1 : Nat) : Int), w64_id _ (by omega) (by omega), ?_⟩
        refine ⟨by omega, (), ?_, ⟨rfl, rfl, rfl, rfl, rfl, trivial⟩⟩
        refine ⟨_, set_same hw0, hE1.set (Nat.le_refl _), fun x hx => ?_⟩
        simp only [spl]
        by_cases e : x / 8 = i1
        · rw [if_pos (by omega), if_pos (by omega), e, show x - (0 + i1 * 8) = x % 8 by omega]
        · rw [if_neg (by omega), hw x hx]
          by_cases h : x / 8 < i1
          · rw [if_pos h, if_pos (by omega)]
          · rw [if_neg h, if_neg (by omega)]
      · replace h24 := of_decide_eq_false h24
        have e1 : n = i1 := by omega
        subst e1
        refine ⟨_, _, hb2', rfl, ?_⟩
        refine ⟨_, _, hb2', rfl, ?_⟩
        refine ⟨_, _, hb2', rfl, ?_⟩
        refine ⟨_, _, _, _, w, hw0, ⟨by simp, by omega⟩, fun x _ => congrArg _ (Nat.zero_add x).symm, ?_⟩
        have hwr : ∀ j, j < n → ∀ k, k < 8 → w (j * 8 + k) = vec 8 p (fun y => cnI f j i0 y) k := by
          intro j hj k hk
          rw [hw _ (by omega), show (j * 8 + k) / 8 = j by omega, show (j * 8 + k) % 8 = k by omega, if_pos hj]
        refine ⟨_, s_l01Kernel_ok B E.2.2.2.2.1 hp hn (fun j hj => ⟨fun x => by
          unfold bz rw8
          split
          · rw [hwr j hj x (by omega)]; exact bz_vec_lt (by omega) (by omega)
          · simp; omega, fun x hx => if_neg (by omega)⟩), ?_⟩
        rintro _ G52 ⟨b52, K52, rfl, hE52, hV52, hR52, hK52⟩
        refine ⟨⟨kept1 hb2' (hE52 _ _ hb2'), trivial⟩, ?_⟩
        refine ⟨_, s_l01Meet_ok B E.2.2.2.2.2 hp (hV0.ext (hE1.trans hE52)) hKv hKl hV52 hR52, ?_⟩
        rintro _ G53 ⟨b53, K53, rfl, hE53, hV53, hR53, hK53⟩
        refine ⟨((i0 + 1 : Nat) : Int), w64_id _ (by omega) (by omega), ?_⟩
        refine ⟨by omega, (_, K53), ?_, ⟨rfl, rfl, rfl, trivial⟩⟩
        refine ⟨hV53, ⟨hR53.len, hR53.vp⟩, fun _ => hR53, fun v => ?_, hE0.trans (hE1.trans (hE52.trans hE53))⟩
        rw [hK53, hKs, hK52, KerM_C (by omega) (by omega) hn hwr]
        constructor
        · rintro ⟨⟨a1, a2⟩, -, a3⟩
          refine ⟨a1, fun i hi => ?_⟩
          by_cases e : i = i0
          · subst e; exact a3
          · exact a2 i (by omega)
        · rintro ⟨a1, a2⟩
          exact ⟨⟨a1, fun i hi => a2 i (by omega)⟩, a1, a2 i0 (by omega)⟩
    · replace h17 := of_decide_eq_false h17
      have e0 : n = i0 := by omega
      subst e0
      have e : K = cenK p n f := (hKr (by omega)).unique (by omega) (by omega) (cenK_rr hp hn) fun v => by
        rw [hKs, cenK_iff hp hn hA.1.2.2]; exact Iff.rfl
      rw [e] at hV0
      exact ⟨rfl, CeV.y hA rfl (Ext.app.trans hE0) hV0⟩


end Hf
namespace Hf
open Go Classical
variable {P : Program} {ρ : Nat → FuncId}
theorem first4_at (B : Bs P ρ) (E : E_i_first P ρ) {H : List Blk} {k : Nat} {r : Bool} {a b c d : Int} (h : H[k]? = some ⟨r, .rw [.i .i64 a, .i .i64 b, .i .i64 c, .i .i64 d]⟩) : CallR P ρ 139 [.sl k 0 4 4] H fun u G => u = .one (.i .i64 (fz [a, b, c, d])) ∧ G = H :=
  ((i_first4_ok B E (a := a) (b := b) (c := c) (d := d)).emb (H := H) (H' := H) (args := [.sl k 0 4 4]) [k] rfl ⟨⟨_, h, fun h => by cases h⟩, trivial⟩ (by simp [apart]) rfl (by simp [back])).r
theorem pa_fz {p n q m : Int} {f g : By} {b1 b2 : Bool} (h1 : b1 = true ↔ p = q) (h2 : Alg p n f → Alg q m g → (b2 = true ↔ n + m ≤ 8)) :
    fz [oc (Alg p n f) 1, oc (Alg q m g) 1, if b1 = true then 0 else 2, if b2 = true then 0 else 3] = paC p n q m f g := by
  unfold paC
  by_cases hA : Alg p n f
  · by_cases hB : Alg q m g
    · rw [oc_t hA, oc_t hB, if_neg (show ¬ ¬ (Alg p n f ∧ Alg q m g) from fun z => z ⟨hA, hB⟩)]
      by_cases e : p = q
      · rw [if_pos (h1.2 e), if_neg (show ¬ p ≠ q from fun z => z e)]
        by_cases l : n + m ≤ 8
        · rw [if_pos ((h2 hA hB).2 l), if_neg (show ¬ n + m > 8 by omega)]; rfl
        · rw [if_neg (show ¬ b2 = true from fun z => l ((h2 hA hB).1 z)), if_pos (show n + m > 8 by omega)]; rfl
      · rw [if_neg (show ¬ b1 = true from fun z => e (h1.1 z)), if_pos (show p ≠ q from e)]; simp [fz]
    · rw [oc_t hA, oc_f hB, if_pos (show ¬ (Alg p n f ∧ Alg q m g) from fun z => hB z.2)]; simp [fz]
  · rw [oc_f hA, if_pos (show ¬ (Alg p n f ∧ Alg q m g) from fun z => hA z.1)]; simp [fz]
theorem paC_0 {p n q m : Int} {f g : By} (h : paC p n q m f g = 0) : (Alg p n f ∧ Alg q m g) ∧ p = q ∧ n + m ≤ 8 := by
  unfold paC at h
  split at h
  · cases h
  · rename_i h1
    split at h
    · cases h
    · rename_i h2
      split at h
      · cases h
      · rename_i h3
        exact ⟨Classical.not_not.1 h1, Classical.not_not.1 h2, by omega⟩
theorem paV_t {p : Int} {n m : Nat} {f g : By} (h : paC p n p m f g = 0) : paV p n p m f g = .tup [.ag [p, (n : Int) + (m : Int)] 522 (prF n m f g), .i .i64 0] := by
  unfold paV paF
  rw [h, if_pos rfl, if_pos rfl, if_pos rfl, Int.toNat_natCast, Int.toNat_natCast]; rfl
theorem prF_c {n m : Nat} {f g : By} (hnm : n + m ≤ 8) {i j k : Nat} (hi : i < 8) (hj : j < 8) (hk : k < 8) : prF n m f g (10 + i * 64 + j * 8 + k) = if (n ≤ i ∧ i < n + m) ∧ (n ≤ j ∧ j < n + m) ∧ n ≤ k ∧ k < n + m then g (10 + (i - n) * 64 + (j - n) * 8 + (k - n)) else f (10 + i * 64 + j * 8 + k) := by
  have q := prF_m (f := f) (g := g) hnm hi hj hk
  unfold tE at q
  split
  · rename_i h; rw [if_pos h] at q; exact bz_inj q
  · rename_i h; rw [if_neg h] at q; exact bz_inj q
theorem prF_uc {n m : Nat} {f g : By} (hnm : n + m ≤ 8) {k : Nat} (hk : k < 8) : prF n m f g (2 + k) = if n ≤ k ∧ k < n + m then g (2 + (k - n)) else f (2 + k) := by
  have q := prF_u (f := f) (g := g) hnm hk
  split
  · rename_i h; rw [if_pos h] at q; exact bz_inj q
  · rename_i h; rw [if_neg h] at q; exact bz_inj q
/-- the unit laid beside the other one -/
theorem pr_unit {p : Int} {n m : Nat} {f g w : By} (hp : 1 ≤ p) (hp2 : p ≤ 256) (hnm : n + m ≤ 8) (hf : Vec p n f 2) (hg : Vec p m g 2) (hw : ∀ k, k < 8 → w (2 + k) = f (2 + k)) : ∀ k, k < 8 → plsN p w 2 1 (mvd (sh g 2) n) 8 (2 + k) = prF n m f g (2 + k) := by
  intro k hk
  rw [prF_uc hnm hk]
  unfold plsN
  rw [if_pos (by omega), show 2 + k - 2 = k by omega, bz_c (hw k hk)]
  by_cases h : n ≤ k ∧ k < n + m
  · rw [if_pos h, (hf k hk).2 (by omega)]
    have e : bz (mvd (sh g 2) n) k = bz g (2 + (k - n)) := bz_c (by unfold mvd mvN; rw [if_pos (by omega)]; rfl)
    rw [e, Int.zero_add, Int.one_mul, Int.emod_eq_of_lt (bz_nn _ _) (hg (k - n) (by omega)).1, byt_bz]
  · rw [if_neg h]
    have e : bz (mvd (sh g 2) n) k = 0 := bz_eq0.2 (by
      unfold mvd mvN
      split
      · rename_i q
        exact bz_eq0.1 ((hg (k - n) (by omega)).2 (by omega))
      · rfl)
    rw [e, Int.mul_zero, Int.add_zero, Int.emod_eq_of_lt (bz_nn _ _) (hf k hk).1, byt_bz]
/-- a row laid in -/
theorem pr_row {p : Int} {n m : Nat} {f g : By} (hnm : n + m ≤ 8) (hf : Tab p n f 10) (hg : Tab p m g 10) {i j k : Nat} (hi : i < m) (hj : j < m) (hk : k < 8) : mvd (sh g (10 + i * 64 + j * 8)) n k = prF n m f g (10 + (n + i) * 64 + (n + j) * 8 + k) := by
  rw [prF_c hnm (by omega) (by omega) hk]
  unfold mvd mvN
  by_cases h : n ≤ k
  · rw [if_pos (by omega)]
    by_cases q : k < n + m
    · rw [if_pos (by omega)]
      unfold sh
      exact congrArg g (by omega)
    · rw [if_neg (by omega)]
      have e1 : g (10 + i * 64 + j * 8 + (k - n)) = 0 := bz_eq0.1 (hg.out (by omega) (by omega) (by omega) (by omega))
      have e2 : f (10 + (n + i) * 64 + (n + j) * 8 + k) = 0 := bz_eq0.1 (hf.out (by omega) (by omega) hk (by omega))
      show g (10 + i * 64 + j * 8 + (k - n)) = _
      rw [e1, e2]
  · rw [if_neg (by omega), if_neg (by omega)]
    exact (bz_eq0.1 (hf.out (by omega) (by omega) hk (by omega))).symm
theorem pr_same {p : Int} {n m : Nat} {f g : By} (hnm : n + m ≤ 8) {x : Nat} (h1 : 10 ≤ x) (h2 : x < 522) (h : (x - 10) / 64 < n ∨ n + m ≤ (x - 10) / 64 ∨ (x - 10) / 8 % 8 < n ∨ n + m ≤ (x - 10) / 8 % 8) : prF n m f g x = f x := by
  have q := prF_c (f := f) (g := g) hnm (i := (x - 10) / 64) (j := (x - 10) / 8 % 8) (k := (x - 10) % 8) (by omega) (by omega) (by omega)
  rw [show 10 + (x - 10) / 64 * 64 + (x - 10) / 8 % 8 * 8 + (x - 10) % 8 = x by omega, if_neg (by omega)] at q
  exact q
set_option maxHeartbeats 2000000 in
theorem i_ProductAlgebra_ok (B : Bs P ρ) (E : F_i_ProductAlgebra P ρ) {p n q m : Int} {f g : By} :
    CallOK P ρ 442 [.ag [p, n] 522 f, .ag [q, m] 522 g] [] (paV p n q m f g) [] := by
  refine (CallR.pure (call_of_q B.fn B.mo E.1 rfl (fun _ _ => ?_) rfl) rfl).ok
  refine ⟨_, rfl, ?_⟩
  refine ⟨_, rfl, ?_⟩
  refine ⟨_, rfl, ?_⟩
  refine ⟨_, _, rfl, rfl, ?_⟩
  refine ⟨_, _, rfl, rfl, ?_⟩
  refine ⟨_, _, rfl, rfl, ?_⟩
  refine ⟨_, _, rfl, rfl, ?_⟩
  refine ⟨_, rfl, ?_⟩
  refine ⟨_, CallOK.at1 (k := 0) rfl (i_Algebra_code_n0_ok B E.2.1 (p := p) (n := n) (f := f)) rfl rfl, ?_⟩
  rintro _ _ ⟨rfl, rfl⟩
  refine ⟨⟨rfl, rfl, rfl, rfl, trivial⟩, ?_⟩
  refine ⟨_, CallOK.at1 (k := 1) rfl (i_Algebra_code_n0_ok B E.2.1 (p := q) (n := m) (f := g)) rfl rfl, ?_⟩
  rintro _ _ ⟨rfl, rfl⟩
  refine ⟨⟨rfl, rfl, rfl, rfl, trivial⟩, ?_⟩
  refine ⟨_, i_unless_ok B E.2.2.1 , rfl, ?_⟩
  refine ⟨_, i_unless_ok B E.2.2.1 , rfl, ?_⟩
  refine ⟨_, rfl, ?_⟩
  refine ⟨_, first4_at B E.2.2.2.1 (k := 2 + 1) rfl, ?_⟩
  rintro _ _ ⟨rfl, rfl⟩
  rw [pa_fz (p := p) (n := n) (q := q) (m := m) (f := f) (g := g) ⟨fun h => eq_of_beq h, fun h => beq_of_eq h⟩ (fun hA hB => by
    have h1 := AShp.p1 hA.1
    have h2 := AShp.p1 hB.1
    rw [w64_id (n + m) (by omega) (by omega)]
    exact decide_eq_true_iff)]
  refine ⟨fun h30 => ?_, fun h30 => ?_⟩
  · replace h30 := bne_t h30
    refine ⟨_, _, _, rfl, cputs_2, eqBk_rfl, ?_⟩
    exact ⟨rfl, false, _, 522, _, rfl, ⟨rfl, by omega⟩, (paV_n rfl h30).symm, Ext.nil⟩
  · replace h30 := bne_f h30
    obtain ⟨⟨hA, hB⟩, hpq, hnm⟩ := paC_0 h30
    subst hpq
    obtain ⟨n, rfl⟩ : ∃ k : Nat, n = (k : Int) := ⟨n.toNat, by have := hA.1.1.2.1; omega⟩
    obtain ⟨m, rfl⟩ : ∃ k : Nat, m = (k : Int) := ⟨m.toNat, by have := hB.1.1.2.1; omega⟩
    have hb := AShp.p1 hA.1
    have hb2 := AShp.p1 hB.1
    have hnm8 : n + m ≤ 8 := by omega
    refine ⟨_, _, rfl, rfl, ?_⟩
    refine ⟨_, _, rfl, rfl, ?_⟩
    refine ⟨_, _, rfl, rfl, ?_⟩
    refine ⟨_, _, rfl, rfl, ?_⟩
    refine ⟨_, w64_id _ (by omega) (by omega), ?_⟩
    refine ⟨_, _, _, _, sh f 10, rfl, ⟨by simp, by omega⟩, fun x hx => rfl, ?_⟩
    refine ⟨_, rfl, ?_⟩
    refine ⟨_, _, _, rfl, cputs_2, eqBk_rfl, ?_⟩
    refine ⟨_, CallOK.at1 (k := 4) rfl (i_Algebra_field_ok B E.2.2.2.2.1 (p := p) (n := (n : Int) + (m : Int)) (f := spl (fun _ => 0) 10 512 (sh f 10))) rfl rfl, ?_⟩
    rintro _ _ ⟨rfl, rfl⟩
    refine ⟨_, rfl, ?_⟩
    refine ⟨_, _, _, rfl, cputs_2, eqBk_rfl, ?_⟩
    refine ⟨_, _, _, _, sh f 2, rfl, ⟨by simp, by omega⟩, fun x hx => rfl, ?_⟩
    refine ⟨_, _, _, rfl, cputs_by (by simp) (by omega), eqBk_rfl, ?_⟩
    refine .inl ⟨_, _, _, _, rfl, ⟨rfl, by omega⟩, ?_⟩
    refine ⟨_, _, _, _, sh g 2, rfl, ⟨by simp, by omega⟩, fun x hx => rfl, ?_⟩
    refine ⟨_, i_moved_ok B E.2.2.2.2.2.1 (d := n) (v := sh g 2) (by omega) (fun i hi h => bz_eq0.1 ((hB.1.2.1 i hi).2 (by omega))), rfl, ?_⟩
    refine ⟨_, plus_at B E.2.2.2.2.2.2 (k := 4) (off := 2) (N := 522) (hd := [p, (n : Int) + (m : Int)]) (f := spl (spl (fun _ => 0) 10 512 (sh f 10)) 2 8 (sh f 2)) (p := p) (n := (n : Int) + (m : Int)) (c := 1) (g0 := fun _ => 0) (w := mvd (sh g 2) n) rfl (by omega) (by omega) (by simp) (by omega) (by omega) (by omega) (fun x h1 h2 => ?_), ?_⟩
    · rw [bz_c (show spl (spl (fun _ => 0) 10 512 (sh f 10)) 2 8 (sh f 2) x = f (2 + (x - 2)) by unfold spl; rw [if_pos (by omega)]; rfl)]
      exact (hA.1.2.1 (x - 2) (by omega)).1
    rintro _ _ ⟨rfl, rfl⟩
    refine ⟨_, _, rfl, rfl, ?_⟩
    refine ⟨Unit, (fun a3 a4 a7 a8 a57 (i0 : Nat) (x0 : Unit) => [(3, a3), (4, a4), (7, a7), (8, a8), (57, a57), (58, .one (.i .i64 ((i0 : Nat) : Int)))]) _ _ _ _ _ , fun (i0 : Nat) (x0 : Unit) (G0 : List Blk) => (∃ (C : Blk) (w : By), G0 = [⟨false, .by [p, (n : Int)] 522 f⟩, ⟨false, .by [p, (m : Int)] 522 g⟩, ⟨false, (Zk.by 2 522).bk⟩, C, ⟨false, .by [p, (n : Int) + (m : Int)] 522 w⟩, ⟨false, .by [p, (n : Int) + (m : Int)] 2 fun _ => 0⟩] ∧ ∀ x, 2 ≤ x → x < 522 → w x = if x < 10 ∨ (x - 10) / 64 < n + i0 then prF n m f g x else f x), m, ⟨(), ?_, ⟨rfl, rfl, rfl, rfl, rfl, rfl, trivial⟩⟩, ?_⟩
    · refine ⟨_, _, rfl, fun x h1 hx => ?_⟩
      by_cases e : x < 10
      · rw [if_pos (.inl e)]
        have := pr_unit (p := p) (n := n) (m := m) (f := f) (g := g) (w := spl (spl (fun _ => 0) 10 512 (sh f 10)) 2 8 (sh f 2)) (by omega) (by omega) hnm8 hA.1.2.1 hB.1.2.1 (fun k hk => by unfold spl; rw [if_pos (by omega)]; show f _ = f _; congr 1; omega) (x - 2) (by omega)
        rwa [show 2 + (x - 2) = x by omega] at this
      · have e1 : plsN p (spl (spl (fun _ => 0) 10 512 (sh f 10)) 2 8 (sh f 2)) 2 1 (mvd (sh g 2) n) 8 x = f x := by
          unfold plsN
          rw [if_neg (by omega)]
          unfold spl
          rw [if_neg (by omega), if_pos (by omega)]
          show f _ = f _
          congr 1; omega
        refine e1.trans ?_
        split
        · exact (pr_same (p := p) hnm8 (by omega) hx (by omega)).symm
        · rfl
    rintro i0 _ G0 hi0 ⟨C0, w0, rfl, hw0⟩
    refine ⟨fun h59 => ?_, fun h59 => ?_⟩
    · replace h59 := of_decide_eq_true h59
      refine ⟨_, _, rfl, rfl, ?_⟩
      refine ⟨Unit, (fun a3 a4 a7 a8 a10 a57 a58 a62 (i1 : Nat) (x1 : Unit) => [(3, a3), (4, a4), (7, a7), (8, a8), (10, a10), (57, a57), (58, a58), (62, a62), (63, .one (.i .i64 ((i1 : Nat) : Int)))]) _ _ _ _ _ _ _ _ , fun (i1 : Nat) (x1 : Unit) (G1 : List Blk) => (∃ (C : Blk) (w : By), G1 = [⟨false, .by [p, (n : Int)] 522 f⟩, ⟨false, .by [p, (m : Int)] 522 g⟩, ⟨false, (Zk.by 2 522).bk⟩, C, ⟨false, .by [p, (n : Int) + (m : Int)] 522 w⟩, ⟨false, .by [p, (n : Int) + (m : Int)] 2 fun _ => 0⟩] ∧ ∀ x, 2 ≤ x → x < 522 → w x = if x < 10 ∨ (x - 10) / 64 < n + i0 ∨ ((x - 10) / 64 = n + i0 ∧ (x - 10) / 8 % 8 < n + i1) then prF n m f g x else f x), m, ⟨(), ?_, ⟨rfl, rfl, rfl, rfl, rfl, rfl, rfl, rfl, rfl, trivial⟩⟩, ?_⟩
      · refine ⟨_, _, rfl, fun x h1 hx => ?_⟩
        rw [hw0 x h1 hx]
        by_cases z : x < 10 ∨ (x - 10) / 64 < n + i0
        · rw [if_pos z, if_pos (by omega)]
        · rw [if_neg z]
          split
          · exact (pr_same (p := p) hnm8 (by omega) hx (by omega)).symm
          · rfl
      rintro i1 _ G1 hi1 ⟨C1, w1, rfl, hw1⟩
      refine ⟨fun h64 => ?_, fun h64 => ?_⟩
      · replace h64 := of_decide_eq_true h64
        refine ⟨((n + i0 : Nat) : Int), (w64_id _ (by omega) (by omega)).trans (by omega), ?_⟩
        refine ⟨((n + i1 : Nat) : Int), (w64_id _ (by omega) (by omega)).trans (by omega), ?_⟩
        refine ⟨i0, _, rfl, by omega, rfl, ?_⟩
        refine ⟨i1, _, rfl, by omega, rfl, ?_⟩
        refine ⟨_, _, _, _, sh g (10 + i0 * 64 + i1 * 8), rfl, ⟨by simp <;> omega, by omega⟩, fun x hx => by show g _ = g _; congr 1 <;> omega, ?_⟩
        refine ⟨_, i_moved_ok B E.2.2.2.2.2.1 (d := n) (v := sh g (10 + i0 * 64 + i1 * 8)) (by omega) (fun i hi h => bz_eq0.1 (Tab.out (g := g) hB.1.2.2 (by omega) (by omega) hi (by omega))), rfl, ?_⟩
        refine ⟨n + i0, _, rfl, by omega, rfl, ?_⟩
        refine ⟨n + i1, _, rfl, by omega, rfl, ?_⟩
        refine ⟨_, _, _, rfl, cputs_by (by simp <;> omega) (by omega), eqBk_rfl, ?_⟩
        refine ⟨((i1 + 1 : Nat) : Int), w64_id _ (by omega) (by omega), ?_⟩
        refine ⟨by omega, (), ?_, ⟨rfl, rfl, rfl, rfl, rfl, rfl, rfl, rfl, rfl, trivial⟩⟩
        refine ⟨_, _, rfl, fun x h1 hx => ?_⟩
        unfold spl
        by_cases e : 0 + 10 + (n + i0) * 64 + (n + i1) * 8 ≤ x ∧ x < 0 + 10 + (n + i0) * 64 + (n + i1) * 8 + 8
        · rw [if_pos e, if_pos (by omega)]
          have := pr_row (p := p) (f := f) (g := g) hnm8 hA.1.2.2 hB.1.2.2 (i := i0) (j := i1) (k := x - (0 + 10 + (n + i0) * 64 + (n + i1) * 8)) (by omega) (by omega) (by omega)
          rw [this]
          exact congrArg _ (by omega)
        · rw [if_neg e, hw1 x h1 hx]
          exact ifc (by omega)
      · replace h64 := of_decide_eq_false h64
        have e1 : m = i1 := by omega
        subst e1
        refine ⟨((i0 + 1 : Nat) : Int), w64_id _ (by omega) (by omega), ?_⟩
        refine ⟨by omega, (), ?_, ⟨rfl, rfl, rfl, rfl, rfl, rfl, trivial⟩⟩
        refine ⟨_, _, rfl, fun x h1 hx => ?_⟩
        rw [hw1 x h1 hx]
        by_cases z : x < 10 ∨ (x - 10) / 64 < n + i0 ∨ ((x - 10) / 64 = n + i0 ∧ (x - 10) / 8 % 8 < n + m)
        · rw [if_pos z, if_pos (by omega)]
        · rw [if_neg z]
          split
          · exact (pr_same (p := p) hnm8 (by omega) hx (by omega)).symm
          · rfl
    · replace h59 := of_decide_eq_false h59
      have e0 : m = i0 := by omega
      subst e0
      refine .inl ⟨_, _, _, _, rfl, ⟨rfl, by omega⟩, ?_⟩
      refine ⟨_, _, .by [p, (n : Int) + (m : Int)] 522 (prF n m f g), rfl, cputs_2, ⟨rfl, rfl, fun x h1 hx => ?_⟩, ?_⟩
      · have h1 : 2 ≤ x := h1
        have hx : x < 522 := hx
        rw [hw0 x h1 hx]
        split
        · rfl
        · exact (pr_same (p := p) hnm8 (by omega) hx (by omega)).symm
      refine ⟨rfl, false, _, 522, _, rfl, ⟨rfl, by omega⟩, ?_, Ext.nil⟩
      show _ = paV p n p m f g
      rw [paV_t h30]; rfl


end Hf
namespace Hf
open Go Classical
variable {P : Program} {ρ : Nat → FuncId}
theorem eqSt_iff {hd : List Int} {f g : By} : eqSt [(2, 8), (10, 512)] hd hd f g = true ↔ ∀ x, 2 ≤ x → x < 522 → f x = g x := by
  refine ⟨fun h x h1 h2 => ?_, eqSt_522⟩
  unfold eqSt at h
  rw [Bool.and_eq_true, List.all_eq_true] at h
  by_cases e : x < 10
  · have := eqB_iff.1 (h.2 (2, 8) (by simp)) (x - 2) (by show x - 2 < 8; omega)
    have this : f (2 + (x - 2)) = g (2 + (x - 2)) := this
    rwa [show 2 + (x - 2) = x by omega] at this
  · have := eqB_iff.1 (h.2 (10, 512) (by simp)) (x - 10) (by show x - 10 < 512; omega)
    have this : f (10 + (x - 10)) = g (10 + (x - 10)) := this
    rwa [show 10 + (x - 10) = x by omega] at this
theorem paV_ex {p n q m : Int} {f g : By} : ∃ a b h, paV p n q m f g = .tup [.ag [a, b] 522 h, .i .i64 (paC p n q m f g)] ∧ (paC p n q m f g = 0 → Alg a b h) := by
  refine ⟨_, _, _, rfl, fun z => ?_⟩
  obtain ⟨⟨hA, hB⟩, hpq, hnm⟩ := paC_0 z
  unfold paF
  rw [if_pos z, if_pos z, if_pos z]
  subst hpq
  obtain ⟨n, rfl⟩ : ∃ k : Nat, n = (k : Int) := ⟨n.toNat, by have := hA.1.1.2.1; omega⟩
  obtain ⟨m, rfl⟩ : ∃ k : Nat, m = (k : Int) := ⟨m.toNat, by have := hB.1.1.2.1; omega⟩
  have := pr_alg hA hB (by omega)
  rw [Int.toNat_natCast, Int.toNat_natCast]
  rwa [show ((n + m : Nat) : Int) = (n : Int) + (m : Int) by omega] at this
theorem ceL_t {p : Int} {n : Nat} {f : By} (h : Alg p n f) : ceL p n f = cenK p n f := by unfold ceL; rw [if_pos h, Int.toNat_natCast]
theorem ceL_len {p n : Int} {f : By} : (ceL p n f).length ≤ 8 := by
  unfold ceL
  split
  · rename_i h
    have hb := AShp.p1 h.1
    exact (cenK_rr h.1.1.1 (by omega)).len
  · simp
theorem cen_rv {p : Int} {n : Nat} {f : By} (h : Alg p n f) : rvQ p n (cenK p n f ++ [unV f]) := by
  have hb := AShp.p1 h.1
  refine ⟨h.1.1, fun v hv => ?_⟩
  have q : Vp n p v := by
    rcases List.mem_append.1 hv with z | z
    · exact ((cenK_iff h.1.1.1 (by omega) h.1.2.2).1 (.mem (by omega) (by omega) z ((cenK_rr h.1.1.1 (by omega)).vp v z))).1
    · rw [List.mem_singleton.1 z]; exact (cen_unit h).1
  exact ⟨fun k hk => ⟨by rw [Nat.zero_add]; exact q.1 k, fun z => by rw [Nat.zero_add]; exact bz_eq0.2 (q.2 k (by omega))⟩, fun x hx => q.2 x (by omega)⟩
set_option maxRecDepth 100000 in
set_option maxHeartbeats 8000000 in
theorem l_FnAlgebras_ok (B : Bs P ρ) (E : F_l_FnAlgebras P ρ) {H : List Blk} {a : At} (hV : CV H a) :
    CallR P ρ 473 [a] H (fun u G => u = .one (.b true) ∧ G = H) := by
  obtain ⟨n0, hn0, hn1⟩ := hV.len
  refine CallR.pure (call_of_q B.fn B.mo E.1 rfl (fun hAr hHp => ?_) (by simp only [List.all_cons, List.all_nil, hV.lt]; rfl)) rfl
  refine ⟨_, l_big_ok B E.2.1 hn0 hV.lt, ?_⟩
  rintro _ H ⟨rfl, rfl⟩
  refine ⟨fun h39 => ?_, fun h39 => ?_⟩
  · skip
    exact ⟨rfl, rfl, Ext.refl⟩
  · skip
    have hC : CB H a := hV.cb hn0 (by have hh := h39; simp at hh; omega)
    refine ⟨_, s_DrawOppositeAlgebra_ok B E.2.2.1 hC, ?_⟩
    rintro _ G41 ⟨pa, na, fa, rfl, hE41⟩
    refine ⟨G41.length + 0, rfl, ?_⟩
    refine ⟨_, _, _, at_k, cputs_2, eqBk_rfl, ?_⟩
    rw [app_set]
    refine .inl ⟨_, _, _, _, at_k, ⟨rfl, by omega⟩, ?_⟩
    refine ⟨_, s_OppositeAlgebra_ok B E.2.2.2.1 (p := pa) (n := na) (f := fa), rfl, ?_⟩
    obtain ⟨po, no, fo, ho, hoA⟩ := @opV_ex pa na fa
    generalize hca : oc (Alg pa na fa) 1 = ca at ho
    rw [ho]
    refine ⟨G41.length + 1, by simp, ?_⟩
    rw [as1]
    refine ⟨_, _, _, at_k, cputs_2, eqBk_rfl, ?_⟩
    rw [app_set]
    refine .inl ⟨_, _, _, _, at_k, ⟨rfl, by omega⟩, ?_⟩
    refine ⟨_, i_OppositeAlgebra_ok B E.2.2.2.2.1 (p := pa) (n := na) (f := fa), rfl, ?_⟩
    rw [ho]
    refine ⟨G41.length + 2, by simp, ?_⟩
    rw [as1]
    refine ⟨_, _, _, at_k, cputs_2, eqBk_rfl, ?_⟩
    rw [app_set]
    refine ⟨fun h55 => ?_, fun h55 => ?_⟩
    · replace h55 := bne_t h55
      exact absurd rfl h55
    · replace h55 := bne_f h55
      refine .inl ⟨_, _, _, _, at_k, ⟨rfl, by omega⟩, ?_⟩
      refine brB_f ?_
      refine .inl ⟨_, _, _, _, at_k, ⟨rfl, by omega⟩, ?_⟩
      refine brB_f ?_
      refine ⟨true, eqSt_self, ?_⟩
      refine brB_f ?_
      refine brB_f ?_
      refine .inl ⟨_, _, _, _, at_k, ⟨rfl, by omega⟩, ?_⟩
      refine brB_f ?_
      refine ⟨_, i_IsAlgebra_ok B E.2.2.2.2.2.1 (p := pa) (n := na) (f := fa), rfl, ?_⟩
      refine brB_f ?_
      refine .inl ⟨_, _, _, _, at_k, ⟨rfl, by omega⟩, ?_⟩
      refine brB_f ?_
      refine ⟨_, s_IsAlgebra_ok B E.2.2.2.2.2.2.1 (p := pa) (n := na) (f := fa), rfl, ?_⟩
      refine brB_f ?_
      refine brB_f ?_
      refine brB_f' (by simp) ?_
      refine ⟨Unit, (fun (y0 : Unit) => [(0, .one a)]), fun (y0 : Unit) (GK0 : List Blk) => (Ext H GK0), ?_, ?_⟩
      · skip
        refine ⟨fun h68 => ?_, fun h68 => ?_⟩
        · replace h68 := eq_of_beq h68
          have hA : Alg pa na fa := oc_0 (hca.trans h68)
          obtain ⟨e1, e2, e3⟩ := hoA hA
          subst e1 e2 e3
          obtain ⟨na, rfl⟩ : ∃ k : Nat, na = (k : Int) := ⟨na.toNat, by have := hA.1.1.2.1; omega⟩
          have hb := AShp.p1 hA.1
          have hKl := (cenK_rr (f := fa) hA.1.1.1 (show na ≤ 8 by omega)).len
          refine .inl ⟨_, _, _, _, at_k, ⟨rfl, by omega⟩, ?_⟩
          refine ⟨_, i_OppositeAlgebra_ok B E.2.2.2.2.1 (p := pa) (n := (na : Int)) (f := opF fa), rfl, ?_⟩
          rw [opV_t (op_alg hA)]
          refine ⟨G41.length + 3, by simp, ?_⟩
          rw [as1]
          refine ⟨_, _, _, at_k, cputs_2, eqBk_rfl, ?_⟩
          rw [app_set]
          refine .inl ⟨_, _, _, _, at_k, ⟨rfl, by omega⟩, ?_⟩
          refine ⟨_, i_CentreOf_ok B E.2.2.2.2.2.2.2.1 (p := pa) (n := (na : Int)) (f := fa), ?_⟩
          rintro _ G76 ⟨b76, rfl, hE76, hV76⟩
          rw [oc_t hA]
          rw [ceL_t hA] at hV76
          have hk3 := hE76 _ _ (at_k (i := 0))
          have hk6 := hE76 _ _ (at_k (i := 2))
          have hk8 := hE76 _ _ (at_k (i := 3))
          have hX76 : Ext H G76 := (hE41.trans Ext.app).trans hE76
          refine .inl ⟨_, _, _, _, hk3, ⟨rfl, by omega⟩, ?_⟩
          refine ⟨_, i_IsCommutative_ok B E.2.2.2.2.2.2.2.2.1 (p := pa) (n := (na : Int)) (f := fa), rfl, ?_⟩
          rw [oc_t hA]
          refine ⟨At, (fun (y1 : At) => [(0, .one a), (3, .one (.pt (G41.length + 0) 0)), (6, .one (.pt (G41.length + 2) 0)), (8, .one (.pt (G41.length + 3) 0)), (9, .one (.i .i64 0)), (10, .one b76), (11, .one (.i .i64 0)), (12, .one (.b (decide (Alg pa na fa ∧ AlC fa)))), (13, .one (.i .i64 0)), (14, .one y1), (15, .one (.i .i64 0))]), fun (y1 : At) (GK1 : List Blk) => (VS GK1 y1 (cenK pa na fa) ∧ Ext G76 GK1), ?_, ?_⟩
          · skip
            refine ⟨_, _, hk3, rfl, ?_⟩
            refine ⟨_, _, hk3, rfl, ?_⟩
            refine ⟨_, _, _, _, unV fa, hk3, ⟨by simp, by omega⟩, fun x hx => by show unV fa x = fa _; unfold unV; rw [if_pos hx], ?_⟩
            refine ⟨?_, ?_, trivial⟩
            · skip
              refine ⟨_, rfl, ?_⟩
              refine ⟨⟨kept1 hk3 (app_old hk3), kept1 hk3 (app_old hk3), kept1 hk3 (app_old hk3), trivial⟩, ?_⟩
              refine ⟨?_, ?_, trivial⟩
              · skip
                refine ⟨_, vw_appF (VW.nil (Nat.le_refl _)) (hV76.ext Ext.app) (by simp only [List.length_nil]; omega) (by simp), ?_⟩
                rintro a91 G91 ⟨hv91, hf91, -, hl91⟩
                have hE91 : Ext G76 G91 := Ext.app.fr' hf91 (Nat.le_refl _)
                refine ⟨⟨kept1 (app_old hk3) (hE91 _ _ hk3), kept1 (app_old hk3) (hE91 _ _ hk3), kept1 (app_old hk3) (hE91 _ _ hk3), trivial⟩, ?_⟩
                refine ⟨?_, trivial⟩
                refine ⟨_, rfl, ?_⟩
                refine ⟨⟨kept1 (hE91 _ _ hk3) (app_old (hE91 _ _ hk3)), kept1 (hE91 _ _ hk3) (app_old (hE91 _ _ hk3)), kept1 (hE91 _ _ hk3) (app_old (hE91 _ _ hk3)), trivial⟩, ?_⟩
                refine ⟨?_, trivial⟩
                refine ⟨_, vw_appF (hv91.ext Ext.app) VS.one (by simp; omega) (Nat.le_trans (by simp) (Nat.le_trans hl91 (by simp))), ?_⟩
                rintro a95 G95 ⟨hv95, hf95, -, hl95⟩
                have hE95 : Ext G76 G95 := (hE91.trans Ext.app).fr' hf95 hv91.ge
                refine ⟨⟨kept1 (app_old (hE91 _ _ hk3)) (hE95 _ _ hk3), kept1 (app_old (hE91 _ _ hk3)) (hE95 _ _ hk3), kept1 (app_old (hE91 _ _ hk3)) (hE95 _ _ hk3), trivial⟩, ?_⟩
                refine ⟨?_, trivial⟩
                refine ⟨_, i_ReduceVectors_ok B E.2.2.2.2.2.2.2.2.2.1 (p := pa) (n := (na : Int)) (L := cenK pa na fa ++ [unV fa]) hv95.vs (cen_rv hA) (by simp; omega), ?_⟩
                rintro _ G96 ⟨b96, rfl, hE96, hV96⟩
                rw [cen_put hA] at hV96
                refine ⟨?_, trivial⟩
                refine ⟨?_, ?_, trivial⟩
                · skip
                  refine ⟨?_, ?_, trivial⟩
                  · skip
                    refine ⟨?_, trivial⟩
                    refine ⟨?_, trivial⟩
                    exact ⟨b96, ⟨hV96.vs, hE95.trans hE96⟩, ⟨rfl, rfl, rfl, rfl, rfl, rfl, rfl, rfl, rfl, rfl, rfl, trivial⟩⟩
                  · skip
                    refine ⟨?_, trivial⟩
                    refine ⟨?_, trivial⟩
                    exact ⟨b96, ⟨hV96.vs, hE95.trans hE96⟩, ⟨rfl, rfl, rfl, rfl, rfl, rfl, rfl, rfl, rfl, rfl, rfl, trivial⟩⟩
                · skip
                  refine ⟨?_, trivial⟩
                  refine ⟨?_, trivial⟩
                  refine ⟨?_, trivial⟩
                  exact ⟨b96, ⟨hV96.vs, hE95.trans hE96⟩, ⟨rfl, rfl, rfl, rfl, rfl, rfl, rfl, rfl, rfl, rfl, rfl, trivial⟩⟩
              · skip
                refine ⟨_, rfl, ?_⟩
                refine ⟨⟨kept1 (app_old hk3) (app_old (app_old hk3)), kept1 (app_old hk3) (app_old (app_old hk3)), kept1 (app_old hk3) (app_old (app_old hk3)), trivial⟩, ?_⟩
                refine ⟨?_, trivial⟩
                refine ⟨_, vw_appF ((VW.nil (Nat.le_refl _)).ext Ext.app) (hV76.ext (Ext.app.trans Ext.app)) (by simp only [List.length_nil]; omega) (by simp), ?_⟩
                rintro a91 G91 ⟨hv91, hf91, -, hl91⟩
                have hE91 : Ext G76 G91 := (Ext.app.trans Ext.app).fr' hf91 (Nat.le_refl _)
                have hu91 := VS.one.fr hf91 (by simp [spB, blkOf])
                refine ⟨⟨kept1 (app_old (app_old hk3)) (hE91 _ _ hk3), kept1 (app_old (app_old hk3)) (hE91 _ _ hk3), kept1 (app_old (app_old hk3)) (hE91 _ _ hk3), trivial⟩, ?_⟩
                refine ⟨?_, trivial⟩
                refine ⟨_, vw_appF hv91 hu91 (by simp; omega) (by simp at hl91 ⊢ <;> omega), ?_⟩
                rintro a95 G95 ⟨hv95, hf95, -, hl95⟩
                have hE95 : Ext G76 G95 := hE91.fr' hf95 (by have := hv91.ge; simp at this ⊢ <;> omega)
                refine ⟨⟨kept1 (hE91 _ _ hk3) (hE95 _ _ hk3), kept1 (hE91 _ _ hk3) (hE95 _ _ hk3), kept1 (hE91 _ _ hk3) (hE95 _ _ hk3), trivial⟩, ?_⟩
                refine ⟨?_, trivial⟩
                refine ⟨_, i_ReduceVectors_ok B E.2.2.2.2.2.2.2.2.2.1 (p := pa) (n := (na : Int)) (L := cenK pa na fa ++ [unV fa]) hv95.vs (cen_rv hA) (by simp; omega), ?_⟩
                rintro _ G96 ⟨b96, rfl, hE96, hV96⟩
                rw [cen_put hA] at hV96
                refine ⟨?_, trivial⟩
                refine ⟨?_, ?_, trivial⟩
                · skip
                  refine ⟨?_, ?_, trivial⟩
                  · skip
                    refine ⟨?_, trivial⟩
                    refine ⟨?_, trivial⟩
                    exact ⟨b96, ⟨hV96.vs, hE95.trans hE96⟩, ⟨rfl, rfl, rfl, rfl, rfl, rfl, rfl, rfl, rfl, rfl, rfl, trivial⟩⟩
                  · skip
                    refine ⟨?_, trivial⟩
                    refine ⟨?_, trivial⟩
                    exact ⟨b96, ⟨hV96.vs, hE95.trans hE96⟩, ⟨rfl, rfl, rfl, rfl, rfl, rfl, rfl, rfl, rfl, rfl, rfl, trivial⟩⟩
                · skip
                  refine ⟨?_, trivial⟩
                  refine ⟨?_, trivial⟩
                  refine ⟨?_, trivial⟩
                  exact ⟨b96, ⟨hV96.vs, hE95.trans hE96⟩, ⟨rfl, rfl, rfl, rfl, rfl, rfl, rfl, rfl, rfl, rfl, rfl, trivial⟩⟩
            · skip
              refine ⟨_, rfl, ?_⟩
              refine ⟨⟨kept1 hk3 (app_old hk3), kept1 hk3 (app_old hk3), kept1 hk3 (app_old hk3), trivial⟩, ?_⟩
              refine ⟨?_, trivial⟩
              refine ⟨_, rfl, ?_⟩
              refine ⟨⟨kept1 (app_old hk3) (app_old (app_old hk3)), kept1 (app_old hk3) (app_old (app_old hk3)), kept1 (app_old hk3) (app_old (app_old hk3)), trivial⟩, ?_⟩
              refine ⟨?_, trivial⟩
              refine ⟨_, vw_appF (VW.nil (Nat.le_refl _)) (hV76.ext (Ext.app.trans Ext.app)) (by simp only [List.length_nil]; omega) (by simp), ?_⟩
              rintro a91 G91 ⟨hv91, hf91, -, hl91⟩
              have hE91 : Ext G76 G91 := (Ext.app.trans Ext.app).fr' hf91 (by simp [blkOf])
              have hu91 := (VS.one.ext Ext.app).fr hf91 (by simp [spB, blkOf])
              refine ⟨⟨kept1 (app_old (app_old hk3)) (hE91 _ _ hk3), kept1 (app_old (app_old hk3)) (hE91 _ _ hk3), kept1 (app_old (app_old hk3)) (hE91 _ _ hk3), trivial⟩, ?_⟩
              refine ⟨?_, trivial⟩
              refine ⟨_, vw_appF hv91 hu91 (by simp; omega) (by simp at hl91 ⊢ <;> omega), ?_⟩
              rintro a95 G95 ⟨hv95, hf95, -, hl95⟩
              have hE95 : Ext G76 G95 := hE91.fr' hf95 (by have := hv91.ge; simp at this ⊢ <;> omega)
              refine ⟨⟨kept1 (hE91 _ _ hk3) (hE95 _ _ hk3), kept1 (hE91 _ _ hk3) (hE95 _ _ hk3), kept1 (hE91 _ _ hk3) (hE95 _ _ hk3), trivial⟩, ?_⟩
              refine ⟨?_, trivial⟩
              refine ⟨_, i_ReduceVectors_ok B E.2.2.2.2.2.2.2.2.2.1 (p := pa) (n := (na : Int)) (L := cenK pa na fa ++ [unV fa]) hv95.vs (cen_rv hA) (by simp; omega), ?_⟩
              rintro _ G96 ⟨b96, rfl, hE96, hV96⟩
              rw [cen_put hA] at hV96
              refine ⟨?_, trivial⟩
              refine ⟨?_, ?_, trivial⟩
              · skip
                refine ⟨?_, ?_, trivial⟩
                · skip
                  refine ⟨?_, trivial⟩
                  refine ⟨?_, trivial⟩
                  exact ⟨b96, ⟨hV96.vs, hE95.trans hE96⟩, ⟨rfl, rfl, rfl, rfl, rfl, rfl, rfl, rfl, rfl, rfl, rfl, trivial⟩⟩
                · skip
                  refine ⟨?_, trivial⟩
                  refine ⟨?_, trivial⟩
                  exact ⟨b96, ⟨hV96.vs, hE95.trans hE96⟩, ⟨rfl, rfl, rfl, rfl, rfl, rfl, rfl, rfl, rfl, rfl, rfl, trivial⟩⟩
              · skip
                refine ⟨?_, trivial⟩
                refine ⟨?_, trivial⟩
                refine ⟨?_, trivial⟩
                exact ⟨b96, ⟨hV96.vs, hE95.trans hE96⟩, ⟨rfl, rfl, rfl, rfl, rfl, rfl, rfl, rfl, rfl, rfl, rfl, trivial⟩⟩
          rintro y1 GK1 ⟨hVb, hEk⟩
          have hm3 := hEk _ _ hk3
          have hm6 := hEk _ _ hk6
          have hm8 := hEk _ _ hk8
          have hVk := hV76.ext hEk
          refine ⟨fun h101 => ?_, fun h101 => ?_⟩
          · replace h101 := bne_t h101
            exact absurd rfl h101
          · replace h101 := bne_f h101
            refine brB_f ?_
            refine brB_f ?_
            refine ⟨fun h105 => ?_, fun h105 => ?_⟩
            · replace h105 := bne_t h105
              exact absurd rfl h105
            · replace h105 := bne_f h105
              refine brB_f ?_
              refine brB_f ?_
              refine ⟨fun h109 => ?_, fun h109 => ?_⟩
              · replace h109 := bne_t h109
                exact absurd rfl h109
              · replace h109 := bne_f h109
                refine brB_f ?_
                refine brB_f ?_
                refine ⟨fun h113 => ?_, fun h113 => ?_⟩
                · replace h113 := bne_t h113
                  exact absurd rfl h113
                · replace h113 := bne_f h113
                  refine .inl ⟨_, _, _, _, hm8, ⟨rfl, by omega⟩, ?_⟩
                  refine brB_f ?_
                  refine .inl ⟨_, _, _, _, hm3, ⟨rfl, by omega⟩, ?_⟩
                  refine brB_f ?_
                  refine ⟨true, eqSt_522 op_op, ?_⟩
                  refine brB_f ?_
                  refine brB_f ?_
                  refine .inl ⟨_, _, _, _, hm6, ⟨rfl, by omega⟩, ?_⟩
                  refine brB_f ?_
                  refine ⟨_, i_IsAlgebra_ok B E.2.2.2.2.2.1 (p := pa) (n := (na : Int)) (f := opF fa), rfl, ?_⟩
                  rw [decide_eq_true (op_alg hA)]
                  refine brB_f ?_
                  refine brB_f ?_
                  refine brB_f ?_
                  refine brB_f ?_
                  refine ⟨_, (hVb).len, ?_⟩
                  refine brB_f ?_
                  refine brB_f ?_
                  refine ⟨_, (hVk).len, ?_⟩
                  refine brB_f ?_
                  refine brB_f ?_
                  refine ⟨fun h130 => ?_, fun h130 => ?_⟩
                  · replace h130 := bne_t h130
                    exact absurd rfl h130
                  · replace h130 := bne_f h130
                    refine brB_f ?_
                    refine brB_f ?_
                    refine ⟨_, (hVk).len, ?_⟩
                    refine brB_f ?_
                    refine brB_f ?_
                    refine ⟨_, _, hm3, rfl, ?_⟩
                    have h136 : ((((cenK pa na fa).length : Nat) : Int) == (na : Int)) = decide (Alg pa na fa ∧ AlC fa) := by
                      rw [Bool.eq_iff_iff, beq_iff_eq, decide_eq_true_eq]
                      exact ⟨fun z => ⟨hA, (cen_com hA).1 (by omega)⟩, fun z => by have := (cen_com hA).2 z.2; omega⟩
                    refine brB_f ?_
                    refine brB_f ?_
                    refine brB_f ?_
                    refine ⟨fun h139 => ?_, fun h139 => ?_⟩
                    · skip
                      simp [h136] at h139
                    · skip
                      refine brB_f ?_
                      refine .inl ⟨_, _, _, _, hm6, ⟨rfl, by omega⟩, ?_⟩
                      refine brB_f ?_
                      refine .inl ⟨_, _, _, _, hm3, ⟨rfl, by omega⟩, ?_⟩
                      refine brB_f ?_
                      refine ⟨decide (Alg pa na fa ∧ AlC fa), by rw [Bool.eq_iff_iff, eqSt_iff, op_com, decide_eq_true_eq]; exact ⟨fun z => ⟨hA, z⟩, fun z => z.2⟩, ?_⟩
                      refine brB_f ?_
                      refine brB_f ?_
                      refine brB_f' (by simp) ?_
                      exact ⟨(), hX76.trans hEk, ⟨rfl, trivial⟩⟩
        · replace h68 := ne_of_beq_false h68
          exact ⟨(), hE41.trans Ext.app, ⟨rfl, trivial⟩⟩
      rintro _ GK0 hK0
      refine ⟨_, s_DrawProductAlgebra_ok B E.2.2.2.2.2.2.2.2.2.2.1 (hC.ext hK0), ?_⟩
      rintro _ G148 ⟨pb, nb, fb, pc, nc, fc, rfl, hE148⟩
      refine ⟨G148.length + 0, rfl, ?_⟩
      refine ⟨G148.length + 1, by simp, ?_⟩
      rw [ap2]
      refine ⟨_, _, _, at_k, cputs_2, eqBk_rfl, ?_⟩
      rw [app_set]
      refine ⟨_, _, _, at_k, cputs_2, eqBk_rfl, ?_⟩
      rw [app_set]
      refine .inl ⟨_, _, _, _, at_k, ⟨rfl, by omega⟩, ?_⟩
      refine .inl ⟨_, _, _, _, at_k, ⟨rfl, by omega⟩, ?_⟩
      refine ⟨_, s_ProductAlgebra_ok B E.2.2.2.2.2.2.2.2.2.2.2.1 (p := pb) (n := nb) (q := pc) (m := nc) (f := fb) (g := fc), rfl, ?_⟩
      obtain ⟨pp, np, fp, hpv, hpA⟩ := @paV_ex pb nb pc nc fb fc
      generalize hcp : paC pb nb pc nc fb fc = cp at hpv
      rw [hpv]
      refine ⟨G148.length + 2, by simp, ?_⟩
      rw [as1]
      refine ⟨_, _, _, at_k, cputs_2, eqBk_rfl, ?_⟩
      rw [app_set]
      refine .inl ⟨_, _, _, _, at_k, ⟨rfl, by omega⟩, ?_⟩
      refine .inl ⟨_, _, _, _, at_k, ⟨rfl, by omega⟩, ?_⟩
      refine ⟨_, i_ProductAlgebra_ok B E.2.2.2.2.2.2.2.2.2.2.2.2.1 (p := pb) (n := nb) (q := pc) (m := nc) (f := fb) (g := fc), rfl, ?_⟩
      rw [hpv]
      refine ⟨G148.length + 3, by simp, ?_⟩
      rw [as1]
      refine ⟨_, _, _, at_k, cputs_2, eqBk_rfl, ?_⟩
      rw [app_set]
      refine ⟨Unit, (fun (y2 : Unit) => [(0, .one a)]), fun (y2 : Unit) (GK2 : List Blk) => (Ext H GK2), ?_, ?_⟩
      · skip
        refine ⟨fun h166 => ?_, fun h166 => ?_⟩
        · replace h166 := bne_t h166
          exact absurd rfl h166
        · replace h166 := bne_f h166
          refine .inl ⟨_, _, _, _, at_k, ⟨rfl, by omega⟩, ?_⟩
          refine brB_f ?_
          refine .inl ⟨_, _, _, _, at_k, ⟨rfl, by omega⟩, ?_⟩
          refine brB_f ?_
          refine ⟨true, eqSt_self, ?_⟩
          refine brB_f ?_
          refine brB_f ?_
          refine brB_f ?_
          refine brB_f ?_
          refine ⟨fun h174 => ?_, fun h174 => ?_⟩
          · replace h174 := eq_of_beq h174
            refine .inl ⟨_, _, _, _, at_k, ⟨rfl, by omega⟩, ?_⟩
            refine brB_t ?_
            refine ⟨_, i_IsAlgebra_ok B E.2.2.2.2.2.1 (p := pp) (n := np) (f := fp), rfl, ?_⟩
            rw [decide_eq_true (hpA (hcp.trans h174))]
            refine brB_t ?_
            refine brB_f ?_
            refine brB_t ?_
            refine brB_f ?_
            refine brB_f ?_
            exact ⟨(), (hK0.trans hE148).trans Ext.app, ⟨rfl, trivial⟩⟩
          · replace h174 := ne_of_beq_false h174
            refine brB_f ?_
            refine brB_f ?_
            refine brB_f ?_
            refine brB_f ?_
            refine brB_f ?_
            refine brB_f ?_
            exact ⟨(), (hK0.trans hE148).trans Ext.app, ⟨rfl, trivial⟩⟩
      rintro _ GK2 hK2
      refine ⟨_, s_DrawFirstFault_ok B E.2.2.2.2.2.2.2.2.2.2.2.2.2.1 (hC.ext hK2), ?_⟩
      rintro _ G181 ⟨pd, nd, fd, rfl, hE181⟩
      refine ⟨G181.length + 0, rfl, ?_⟩
      refine ⟨_, _, _, at_k, cputs_2, eqBk_rfl, ?_⟩
      rw [app_set]
      refine .inl ⟨_, _, _, _, at_k, ⟨rfl, by omega⟩, ?_⟩
      refine ⟨_, s_FirstFault_ok B E.2.2.2.2.2.2.2.2.2.2.2.2.2.2.1 (p := pd) (n := nd) (f := fd), ?_⟩
      rintro _ G184 ⟨b184, rfl, hE184, hV184⟩
      refine .inl ⟨_, _, _, _, hE184 _ _ (at_k (i := 0)), ⟨rfl, by omega⟩, ?_⟩
      refine ⟨_, i_FirstFault_ok B E.2.2.2.2.2.2.2.2.2.2.2.2.2.2.2.1 (p := pd) (n := nd) (f := fd), ?_⟩
      rintro _ G189 ⟨b189, rfl, hE189, hV189⟩
      have hX189 : Ext H G189 := (hK2.trans hE181).trans (Ext.app.trans (hE184.trans hE189))
      refine ⟨_, s_DrawCentreOf_ok B E.2.2.2.2.2.2.2.2.2.2.2.2.2.2.2.2.1 (hC.ext hX189), ?_⟩
      rintro _ G193 ⟨pe, ne, fe, rfl, hE193⟩
      refine ⟨G193.length + 0, rfl, ?_⟩
      refine ⟨_, _, _, at_k, cputs_2, eqBk_rfl, ?_⟩
      rw [app_set]
      refine .inl ⟨_, _, _, _, at_k, ⟨rfl, by omega⟩, ?_⟩
      refine ⟨_, s_CentreOf_ok B E.2.2.2.2.2.2.2.2.2.2.2.2.2.2.2.2.2.1 (p := pe) (n := ne) (f := fe), ?_⟩
      rintro _ G196 ⟨b196, rfl, hE196, hV196⟩
      refine .inl ⟨_, _, _, _, hE196 _ _ (at_k (i := 0)), ⟨rfl, by omega⟩, ?_⟩
      refine ⟨_, i_CentreOf_ok B E.2.2.2.2.2.2.2.1 (p := pe) (n := ne) (f := fe), ?_⟩
      rintro _ G201 ⟨b201, rfl, hE201, hV201⟩
      have hY201 : Ext G189 G201 := hE193.trans (Ext.app.trans (hE196.trans hE201))
      refine ⟨_, s_DrawIsCommutative_ok B E.2.2.2.2.2.2.2.2.2.2.2.2.2.2.2.2.2.2.1 (hC.ext (hX189.trans hY201)), ?_⟩
      rintro _ G205 ⟨pg, ng, fg, rfl, hE205⟩
      refine ⟨G205.length + 0, rfl, ?_⟩
      refine ⟨_, _, _, at_k, cputs_2, eqBk_rfl, ?_⟩
      rw [app_set]
      refine .inl ⟨_, _, _, _, at_k, ⟨rfl, by omega⟩, ?_⟩
      refine ⟨_, s_IsCommutative_ok B E.2.2.2.2.2.2.2.2.2.2.2.2.2.2.2.2.2.2.2.1 (p := pg) (n := ng) (f := fg), rfl, ?_⟩
      refine .inl ⟨_, _, _, _, at_k, ⟨rfl, by omega⟩, ?_⟩
      refine ⟨_, i_IsCommutative_ok B E.2.2.2.2.2.2.2.2.1 (p := pg) (n := ng) (f := fg), rfl, ?_⟩
      refine ⟨_, s_DrawIsPrime_ok B E.2.2.2.2.2.2.2.2.2.2.2.2.2.2.2.2.2.2.2.2.1 (hC.ext ((hX189.trans hY201).trans (hE205.trans Ext.app))), ?_⟩
      rintro _ G217 ⟨z217, rfl, hE217⟩
      have hZ217 : Ext G201 G217 := hE205.trans (Ext.app.trans hE217)
      have hI1 := hV189.ext (hY201.trans hZ217)
      have hI2 := (hV184.ext hE189).ext (hY201.trans hZ217)
      have hI3 := hV201.ext hZ217
      have hI4 := (hV196.ext hE201).ext hZ217
      have hX217 : Ext H G217 := (hX189.trans hY201).trans hZ217
      refine ⟨fun h221 => ?_, fun h221 => ?_⟩
      · replace h221 := eq_of_beq h221
        refine brB_t ?_
        refine brB_t ?_
        refine ⟨_, l_likeInts_ok B E.2.2.2.2.2.2.2.2.2.2.2.2.2.2.2.2.2.2.2.2.2.1 (L := afL pd nd fd) hI1 hI2 hI1.lt hI2.lt afL_len, ?_⟩
        rintro _ G224 ⟨rfl, rfl⟩
        refine brB_t ?_
        refine brB_t ?_
        refine brB_t ?_
        refine brB_t ?_
        refine brB_t ?_
        refine ⟨fun h231 => ?_, fun h231 => ?_⟩
        · replace h231 := eq_of_beq h231
          refine brB_t ?_
          refine brB_t ?_
          refine ⟨_, l_vectors5_ok B E.2.2.2.2.2.2.2.2.2.2.2.2.2.2.2.2.2.2.2.2.2.2.1 (L := ceL pe ne fe) hI3 hI4 (by have := @ceL_len pe ne fe; omega), ?_⟩
          rintro _ G234 ⟨rfl, rfl⟩
          refine brB_t ?_
          refine brB_t ?_
          refine brB_t ?_
          refine brB_t ?_
          refine brB_t ?_
          refine ⟨fun h241 => ?_, fun h241 => ?_⟩
          · replace h241 := eq_of_beq h241
            refine brB_t ?_
            refine brB_t ?_
            refine brB_t ?_
            refine ⟨fun h246 => ?_, fun h246 => ?_⟩
            · skip
              refine brB_t ?_
              refine ⟨_, i_IsPrime_ok B E.2.2.2.2.2.2.2.2.2.2.2.2.2.2.2.2.2.2.2.2.2.2.2.1 (p := z217), rfl, ?_⟩
              refine brB_t ?_
              refine brB_t ?_
              refine ⟨_, s_IsPrime_ok B E.2.2.2.2.2.2.2.2.2.2.2.2.2.2.2.2.2.2.2.2.2.2.2.2 (p := z217), rfl, ?_⟩
              refine brB_t ?_
              refine brB_t ?_
              refine ⟨rfl, ?_, hX217⟩
              show Sv.one (.b (decide (Pr z217) == decide (Pr z217))) = _
              rw [beq_self_eq_true]
            · skip
              simp at h246
          · replace h241 := ne_of_beq_false h241
            exact absurd rfl h241
        · replace h231 := ne_of_beq_false h231
          exact absurd rfl h231
      · replace h221 := ne_of_beq_false h221
        exact absurd rfl h221

end Hf
