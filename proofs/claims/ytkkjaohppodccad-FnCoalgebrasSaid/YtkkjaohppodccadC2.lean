/- Contracts of the functions that the law reaches. -/
import Derived.Test.YtkkjaohppodccadC1
set_option linter.unusedVariables false
set_option linter.unusedSimpArgs false
namespace Hf
open Go Classical
structure AL (p : Int) (N : Nat) where
  m : Fin N → Fin N → Fin N → Zq p
  u : Fin N → Zq p
  as : ∀ i j k y, (sf fun x => m i j x * m x k y) = sf fun x => m j k x * m i x y
  ul : ∀ i y, (sf fun x => u x * m x i y) = if i = y then zc 1 else zc 0
  ur : ∀ i y, (sf fun x => u x * m i x y) = if i = y then zc 1 else zc 0
structure CO (p : Int) (n : Nat) where
  d : Fin n → Fin n → Fin n → Zq p
  e : Fin n → Zq p
  ca : ∀ i j k l, (sf fun a => d i a l * d a j k) = sf fun a => d i j a * d a k l
  cl : ∀ i x, (sf fun j => e j * d i j x) = if i = x then zc 1 else zc 0
  cr : ∀ i j, (sf fun k => e k * d i j k) = if i = j then zc 1 else zc 0
section
variable {p : Int} {n m : Nat}
def alOf {f : By} (hp1 : 1 ≤ p) (hp2 : p ≤ 256) (hm : m ≤ 8) (hA : Alg p m f) : AL p m := by
  refine ⟨fun i j k => zc (bz f (10 + i.val * 64 + j.val * 8 + k.val)), fun k => zc (bz f (2 + k.val)), ?_, ?_, ?_⟩
  · intro i j k y
    have q := zc_eq.2 (vecE hp1 hp2 (hA.2.2 i.val j.val k.val (by simp) (by simp) (by simp)) (k := y.val) (by omega))
    rw [Int.toNat_natCast, prd_r k.isLt, prd_l i.isLt] at q
    simp only [sf_sm, zc_mul, bz_sh'] at q
    exact q
  · intro i y
    have q := zc_eq.2 (vecE' hp1 hp2 (hA.2.1 i.val (by omega)).1 (k := y.val) (by omega))
    rw [Int.toNat_natCast, prd_r i.isLt, zc_bas] at q
    simp only [sf_sm, zc_mul, bz_sh'] at q
    exact q
  · intro i y
    have q := zc_eq.2 (vecE' hp1 hp2 (hA.2.1 i.val (by omega)).2 (k := y.val) (by omega))
    rw [Int.toNat_natCast, prd_l i.isLt, zc_bas] at q
    simp only [sf_sm, zc_mul, bz_sh'] at q
    exact q
def coOf {f : By} (hp1 : 1 ≤ p) (hp2 : p ≤ 256) (hn : n ≤ 8) (hC : Cog p n f) : CO p n := by
  refine ⟨fun i j k => zc (bz f (10 + i.val * 64 + j.val * 8 + k.val)), fun k => zc (bz f (2 + k.val)), ?_, ?_, ?_⟩
  · intro i j k l
    have q : cg p (coL n f i.val j.val k.val l.val) (coR n f i.val j.val k.val l.val) := hC.coa i.isLt j.isLt k.isLt l.isLt
    have q := zc_eq.2 q
    unfold coL coR at q
    simp only [sf_sm, zc_mul] at q
    exact q
  · intro i x
    have q := zc_eq.2 (vecE' hp1 hp2 (hC.2.1 i.val (by simp)).1 (k := x.val) (by omega))
    rw [Int.toNat_natCast, zc_bas] at q
    unfold cuL at q
    simp only [sf_sm, zc_mul] at q
    exact q
  · intro i j
    have q := hC.2.1 i.val (by simp)
    rw [Int.toNat_natCast] at q
    have q := zc_eq.2 (vecE' hp1 hp2 q.2 (k := j.val) (by omega))
    rw [zc_bas] at q
    unfold cuR at q
    simp only [sf_sm, zc_mul] at q
    exact q
variable {A : AL p m} {C : CO p n}
/-! ### linear, over places of either kind -/
theorem x1_m {c : Fin n → Zq p} {r : Zq p} {F : Fin n → Zq p} : l1 c (fun x => F x * r) = l1 c F * r := by
  unfold l1; rw [← sf_mulr]; exact sf_congr fun x => (z_ma _ _ _).symm
theorem x2_m {c : Fin n → Fin n → Zq p} {r : Zq p} {F : Fin n → Fin n → Zq p} : l2 c (fun x y => F x y * r) = l2 c F * r := by
  unfold l2; rw [← sf_mulr]; refine sf_congr fun x => ?_; rw [← sf_mulr]; exact sf_congr fun y => (z_ma _ _ _).symm
/-- what is made of a sum -/
theorem y2 {c : Fin n → Fin n → Zq p} {T : Fin n → Fin n → Fin m → Zq p} {F : Fin m → Zq p} : l1 (fun y => l2 c fun j k => T j k y) F = l2 c fun j k => l1 (T j k) F := by
  show (sf fun y => l2 c (fun j k => T j k y) * F y) = l2 c fun j k => sf fun y => T j k y * F y
  rw [l2_sf]; exact sf_congr fun y => x2_m.symm
theorem y1 {c : Fin n → Zq p} {T : Fin n → Fin m → Zq p} {F : Fin m → Zq p} : l1 (fun y => l1 c fun j => T j y) F = l1 c fun j => l1 (T j) F := by
  show (sf fun y => l1 c (fun j => T j y) * F y) = l1 c fun j => sf fun y => T j y * F y
  rw [l1_sf]; exact sf_congr fun y => x1_m.symm
/-! ### convolution -/
def AL.M (A : AL p m) (i j : Fin m) (F : Fin m → Zq p) : Zq p := l1 (A.m i j) F
variable {F G K : Fin n → Fin m → Zq p}
end
section
variable {p : Int} {n m : Nat} {f g F G K : By}
/-- the rows so far -/
def CvI (row : Nat → Nat → Nat → By) (n i j k : Nat) (w : By) : Prop := ∀ x, x < 64 → w x = if x / 8 < i then row (x / 8) n 0 (x % 8) else if x / 8 = i then row i j k (x % 8) else 0
theorem CvI.z {row : Nat → Nat → Nat → By} {n : Nat} (h : row 0 0 0 = fun _ => 0) {w : By} (hw : ∀ x, x < 64 → w x = 0) : CvI row n 0 0 0 w := fun x hx => by
  rw [hw x hx, if_neg (by omega), h]
  split <;> rfl
theorem CvI.cur {row : Nat → Nat → Nat → By} {n i j k : Nat} {w : By} (h : CvI row n i j k w) (hi : i < 8) {y : Nat} (hy : y < 8) : w (i * 8 + y) = row i j k y := by
  rw [h _ (by omega), if_neg (by omega), if_pos (by omega), show (i * 8 + y) % 8 = y by omega]
theorem CvI.st {row : Nat → Nat → Nat → By} {n i j k j' k' : Nat} {w w' : By} (h : CvI row n i j k w) (h1 : ∀ x, x < 64 → x / 8 ≠ i → w' x = w x) (h2 : ∀ y, y < 8 → w' (i * 8 + y) = row i j' k' y) : CvI row n i j' k' w' := fun x hx => by
  by_cases e : x / 8 = i
  · rw [if_neg (by omega), if_pos e]
    have := h2 (x % 8) (by omega)
    rwa [show i * 8 + x % 8 = x by omega] at this
  · rw [h1 x hx e, h x hx, if_neg e, if_neg e]
theorem CvI.nx {row : Nat → Nat → Nat → By} {n i : Nat} {w : By} (h : CvI row n i n 0 w) (e : row (i + 1) 0 0 = fun _ => 0) : CvI row n (i + 1) 0 0 w := fun x hx => by
  rw [h x hx, e]
  by_cases q : x / 8 < i
  · rw [if_pos q, if_pos (by omega)]
  · rw [if_neg q]
    by_cases q2 : x / 8 = i
    · rw [if_pos q2, if_pos (by omega), q2]
    · rw [if_neg q2, if_neg (by omega)]; split <;> rfl
/-- the unit map -/
def umF (p : Int) (f g : By) : By := fun x => if x < 64 then vec 8 p (fun y => bz f (2 + x / 8) * bz g (2 + y)) (x % 8) else 0
end
end Hf
namespace Hf
open Go Classical
variable {P : Program} {ρ : Nat → FuncId}
theorem x_IndexFunc_V2_ok (B : Bs P ρ) (E : F_x_IndexFunc_V2 P ρ) {g : Nat} {caps : List (Nat × Nat)} {H : List Blk} {a : At} {L : List By} {q : Nat → Bool} {z : Int} (hz : firstQ q L.length 0 = z) (hA : VS H a L) (hcaps : (At.fn g [] caps).lt H.length = true) (hlen : L.length ≤ 1000000) (hq : ∀ i, i < L.length → CallR P ρ g ([.ag [] 8 (L.getD i z0)] ++ caps.map (fun p => .pt p.1 p.2)) H fun u G => u = .one (.b (q i)) ∧ G = H) :
    CallR P ρ 91 [a, .fn g [] caps] H (fun u G => u = .one (.i .i64 z) ∧ G = H) := by
  refine call_of_q B.fn B.mo E rfl (fun hAr hHp => ?_) (by simp only [List.all_cons, List.all_nil, hA.lt, hcaps]; rfl)
  refine ⟨_, (hA).len, ?_⟩
  refine ⟨Unit, (fun a0 a1 a7 (i0 : Nat) (x0 : Unit) => [(0, a0), (1, a1), (7, a7), (8, .one (.i .i64 ((i0 : Nat) : Int)))]) _ _ _ , fun (i0 : Nat) (x0 : Unit) (G0 : List Blk) => (G0 = H ∧ ∀ j, j < i0 → q j = false), L.length, ⟨(), ⟨rfl, fun j h => by omega⟩, ⟨rfl, rfl, rfl, rfl, trivial⟩⟩, ?_⟩
  rintro i0 _ G0 hi0 ⟨rfl, hF0⟩
  refine ⟨fun h9 => ?_, fun h9 => ?_⟩
  · replace h9 := of_decide_eq_true h9
    obtain ⟨k14, o14, n14, c14, q14, ea14, hl14, hq14, r14, N14, f14, hk14, hN14, hf14⟩ := (hA).at i0 (by omega)
    refine ⟨k14, o14, n14, c14, i0, q14, ea14, rfl, hl14, hq14, ?_⟩
    refine ⟨_, _, _, _, _, hk14, ⟨by simp, hN14⟩, hf14, ?_⟩
    refine ⟨_, hq i0 (by omega), ?_⟩
    rintro _ _ ⟨rfl, rfl⟩
    refine ⟨fun h16 => ?_, fun h16 => ?_⟩
    · skip
      have e : z = (i0 : Int) := hz.symm.trans <| firstQ_some (by omega) (by omega) h16 fun j _ h => hF0 j h
      exact ⟨rfl, by rw [e]; rfl, rfl⟩
    · skip
      refine ⟨((i0 + 1 : Nat) : Int), w64_id _ (by omega) (by omega), ?_⟩
      refine ⟨by omega, (), ?_, ⟨rfl, rfl, rfl, rfl, trivial⟩⟩
      refine ⟨rfl, fun j hj => ?_⟩
      by_cases e : j = i0
      · subst e; exact h16
      · exact hF0 j (by omega)
  · replace h9 := of_decide_eq_false h9
    have e0 : L.length = i0 := by omega
    subst e0
    have e : z = -1 := hz.symm.trans <| firstQ_none fun j _ h => hF0 j (by omega)
    exact ⟨rfl, by rw [e]; rfl, rfl⟩

theorem x_ContainsFunc_V2_ok (B : Bs P ρ) (E : F_x_ContainsFunc_V2 P ρ) {g : Nat} {caps : List (Nat × Nat)} {H : List Blk} {a : At} {L : List By} {q : Nat → Bool} (hA : VS H a L) (hcaps : (At.fn g [] caps).lt H.length = true) (hlen : L.length ≤ 1000000) (hq : ∀ i, i < L.length → CallR P ρ g ([.ag [] 8 (L.getD i z0)] ++ caps.map (fun p => .pt p.1 p.2)) H fun u G => u = .one (.b (q i)) ∧ G = H) :
    CallR P ρ 70 [a, .fn g [] caps] H (fun u G => u = .one (.b (decide (∃ i, i < L.length ∧ q i = true))) ∧ G = H) := by
  refine call_of_q B.fn B.mo E.1 rfl (fun hAr hHp => ?_) (by simp only [List.all_cons, List.all_nil, hA.lt, hcaps]; rfl)
  refine ⟨_, x_IndexFunc_V2_ok B E.2 rfl hA hcaps hlen hq, ?_⟩
  rintro _ _ ⟨rfl, rfl⟩
  refine ⟨rfl, ?_, rfl⟩
  have e : decide (∃ i, i < L.length ∧ q i = true) = decide (firstQ q L.length 0 ≥ 0) := by
    refine decide_eq_decide.2 ?_
    show _ ↔ 0 ≤ _
    rw [firstQ_nn]
    exact ⟨fun ⟨i, h1, h2⟩ => ⟨i, by omega, by omega, h2⟩, fun ⟨i, _, h1, h2⟩ => ⟨i, by omega, h2⟩⟩
  rw [e]; rfl

theorem plus_at (B : Bs P ρ) (E : E_i_field_plus P ρ) {H : List Blk} {k off N : Nat} {p n c : Int} {g0 w f : By} {hd : List Int} (hk : H[k]? = some ⟨false, .by hd N f⟩) (hp : 1 ≤ p) (hp2 : p ≤ 1000) (ho : hd.length ≤ off) (hN : off + 8 ≤ N) (hc : -1000000000000 ≤ c) (hc2 : c ≤ 1000000000000) (hf : ∀ x, off ≤ x → x < off + 8 → bz f x < p) :
    CallR P ρ 71 [.ag [p, n] 2 g0, .pt k off, .i .i64 c, .ag [] 8 w] H fun u G => u = .tup [] ∧ G = H.set k ⟨false, .by hd N (plsN p f off c w 8)⟩ :=
  ((i_field_plus_ok B E (p := p) (n := n) (k := c) (g0 := g0) (w := w) (f := f) (hd := hd) (N := N) (off := off) hp hp2 ho hN hc hc2 hf).emb (H := H) (H' := H.set k ⟨false, .by hd N (plsN p f off c w 8)⟩) (args := [.ag [p, n] 2 g0, .pt k off, .i .i64 c, .ag [] 8 w]) [k] rfl ⟨⟨_, hk, fun _ => rfl⟩, trivial⟩ rfl rfl (by simp [back]; rfl)).r
theorem VS.shape {H : List Blk} {a : At} {L : List By} (h : VS H a L) : a = .sn ∨ ∃ k o n c, a = .sl k o n c := by
  rcases h with ⟨h, -⟩ | ⟨k, off, cap, r, N, f, h, -⟩
  · exact .inl h
  · exact .inr ⟨_, _, _, _, h⟩
end Hf
namespace Hf
open Go Classical
variable {P : Program} {ρ : Nat → FuncId}
/-- a slice whose block is none of the first m, or that is full -/
def VF (m : Nat) (H : List Blk) (a : At) (L : List By) : Prop :=
  ∃ k off cap N f, a = .sl k off L.length cap ∧ H[k]? = some ⟨false, .by [] N f⟩ ∧ (off + cap * 8 ≤ N ∧ L.length ≤ cap ∧ (m ≤ k ∨ L.length = cap)) ∧ ∀ i x, i < L.length → x < 8 → f (off + i * 8 + x) = (L.getD i z0) x
theorem VF.ext {m : Nat} {H H' : List Blk} {a : At} {L : List By} (h : VF m H a L) (e : Ext H H') : VF m H' a L := by
  obtain ⟨k, off, cap, N, f, h1, h2, h3, h4⟩ := h
  exact ⟨k, off, cap, N, f, h1, e k _ h2, h3, h4⟩
theorem VF.nil {m : Nat} {H : List Blk} {f : By} : VF m (H ++ [⟨false, .by [] (0 * 8) f⟩]) (.sl H.length 0 0 0) [] :=
  ⟨H.length, 0, 0, _, f, rfl, get_new, ⟨by omega, by simp, .inr rfl⟩, fun i x h => by simp at h⟩
end Hf
namespace Hf
open Go Classical
variable {P : Program} {ρ : Nat → FuncId}
def IQ (p n d : Int) (g f : By) : Prop := Hop p n f ∧ Mod p n.toNat d g f
end Hf
namespace Hf
open Go Classical
variable {P : Program} {ρ : Nat → FuncId}
theorem all_getD {L : List By} {q : By → Prop} : (∀ v ∈ L, q v) ↔ ∀ i, i < L.length → q (L.getD i z0) :=
  ⟨fun h i hi => h _ (getD_mem hi), fun h v hv => by
    obtain ⟨i, hi, rfl⟩ := List.mem_iff_getElem.1 hv
    have := h i hi
    rwa [List.getD_eq_getElem?_getD, List.getElem?_eq_getElem hi] at this⟩
-- left out: i_Module_vectorsCode_1
-- left out: i_Module_vectorsCode
/-- a module and vectors of it -/
def SQ (p n d : Int) (g f : By) (L : List By) : Prop := IQ p n d g f ∧ ∀ v ∈ L, Vec p d v 0
-- left out: s_l06Vectors
theorem SQ.vp {p n : Int} {d : Nat} {g f : By} {L : List By} (h : SQ p n d g f L) (hz : ∀ v ∈ L, ∀ x, 8 ≤ x → v x = 0) : ∀ v ∈ L, Vp d p v := by
  intro v hv
  have hp2 := h.1.1.1.1.1.1
  have hd : d ≤ 8 := by have := h.1.2.1.1.2.2; omega
  refine ⟨fun x => ?_, fun x hx => ?_⟩
  · rcases Nat.lt_or_ge x 8 with h8 | h8
    · have := (h.2 v hv x h8).1; rwa [Nat.zero_add] at this
    · rw [bz_eq0.2 (hz v hv x h8)]; omega
  · rcases Nat.lt_or_ge x 8 with h8 | h8
    · have := (h.2 v hv x h8).2 (by omega)
      rw [Nat.zero_add] at this
      exact bz_eq0.1 this
    · exact hz v hv x h8
end Hf
namespace Hf
open Go Classical
variable {P : Program} {ρ : Nat → FuncId}
/-- a list that the input brings along: its block may hold other things too -/
def VA (H : List Blk) (a : At) (L : List By) : Prop :=
  (a = .sn ∧ L = []) ∨ ∃ k off cap r cs fz, a = .sl k off L.length cap ∧ H[k]? = some ⟨r, .fo cs fz⟩ ∧ ∀ i x, i < L.length → x < 8 → cs[off + i * 8 + x]? = some (.int .u8 ((((L.getD i z0) x).toNat : Nat) : Int))
theorem VA.ext {H H' : List Blk} {a : At} {L : List By} (h : VA H a L) (e : Ext H H') : VA H' a L := by
  rcases h with h | ⟨k, off, cap, r, cs, fz, h1, h2, h3⟩
  · exact .inl h
  · exact .inr ⟨k, off, cap, r, cs, fz, h1, e k _ h2, h3⟩
theorem VA.lt {H : List Blk} {a : At} {L : List By} (h : VA H a L) : a.lt H.length = true := by
  rcases h with ⟨rfl, -⟩ | ⟨k, off, cap, r, cs, fz, rfl, h2, h3⟩
  · rfl
  · simp [At.lt, lt_of h2]
theorem VA.len {H : List Blk} {a : At} {L : List By} (h : VA H a L) : lenA a = some L.length := by
  rcases h with ⟨rfl, rfl⟩ | ⟨k, off, cap, r, cs, fz, rfl, -⟩ <;> rfl
theorem VA.at {H : List Blk} {a : At} {L : List By} (h : VA H a L) (i : Nat) (hi : i < L.length) :
    ∃ k off len cap q, a = .sl k off len cap ∧ i < len ∧ off + i * 8 = q ∧ ∃ r cs fz, H[k]? = some ⟨r, .fo cs fz⟩ ∧ ∀ y, y < 8 → cs[q + y]? = some (.int .u8 ((((L.getD i z0) y).toNat : Nat) : Int)) := by
  rcases h with ⟨rfl, rfl⟩ | ⟨k, off, cap, r, cs, fz, rfl, h2, h3⟩
  · simp at hi
  · exact ⟨k, off, L.length, cap, off + i * 8, rfl, hi, rfl, r, cs, fz, h2, fun y hy => h3 i y hi hy⟩
/-- room behind a list of n -/
def room (n : Nat) : Nat := if n % 6 = 5 then 0 else if n % 3 = 0 then 1 else n
def v201 : By := fun x => if x = 0 then 201 else 0
/-- a list and what stands behind it -/
def extL (L : List By) : List By := L ++ List.replicate (room L.length) v201
/-- an argument as the laws lay it: from the m-th block on, and room behind it -/
def VT (m : Nat) (H : List Blk) (a : At) (L : List By) : Prop :=
  ∃ k f, a = .sl k 0 L.length (L.length + room L.length) ∧ H[k]? = some ⟨false, .by [] ((L.length + room L.length) * 8) f⟩ ∧ m ≤ k ∧ ∀ i x, i < L.length + room L.length → x < 8 → f (i * 8 + x) = ((extL L).getD i z0) x
theorem VT.ext {m : Nat} {H H' : List Blk} {a : At} {L : List By} (h : VT m H a L) (e : Ext H H') : VT m H' a L := by
  obtain ⟨k, f, rfl, h2, h3, h4⟩ := h
  exact ⟨k, f, rfl, e _ _ h2, h3, h4⟩
end Hf
namespace Hf
open Go Classical
section
variable {p : Int} {n d : Nat} {g f : By}
end
theorem nodup_sub : ∀ {A B : List Nat}, A.Nodup → (∀ x ∈ A, x ∈ B) → A.length ≤ B.length ∧ (A.length = B.length → ∀ x ∈ B, x ∈ A)
  | [], B, _, _ => ⟨Nat.zero_le _, fun h x hx => by
    have : B = [] := List.length_eq_zero_iff.1 h.symm
    subst this; cases hx⟩
  | a :: A, B, hn, hs => by
    obtain ⟨h1, h2⟩ := List.nodup_cons.1 hn
    have ha : a ∈ B := hs a (by simp)
    have hle := List.length_erase_of_mem ha
    have hpos : 0 < B.length := List.length_pos_of_mem ha
    obtain ⟨q1, q2⟩ := nodup_sub (A := A) (B := B.erase a) h2 fun x hx => (List.mem_erase_of_ne (by rintro rfl; exact h1 hx)).2 (hs x (by simp [hx]))
    refine ⟨by simp only [List.length_cons]; omega, fun h x hx => ?_⟩
    by_cases e : x = a
    · subst e; simp
    · exact List.mem_cons_of_mem _ (q2 (by simp only [List.length_cons] at h; omega) x ((List.mem_erase_of_ne e).2 hx))
section
variable {p : Int}
/-- a space of the same size that lies in another one -/
theorem RR.same (hp1 : 1 ≤ p) (hp2 : p ≤ 256) {A B : List By} (hA : RR 8 p A) (hB : RR 8 p B) (h : ∀ u ∈ A, Sp' 8 p B u) : A.length ≤ B.length ∧ (A.length = B.length → SpE 8 p A B) := by
  have nA : (A.map (fstW 8)).Nodup := by
    rw [List.nodup_iff_pairwise_ne, List.pairwise_map]
    exact hA.sorted.imp fun h => Nat.ne_of_lt h
  have sub : ∀ x ∈ A.map (fstW 8), x ∈ B.map (fstW 8) := by
    intro x hx
    obtain ⟨u, hu, rfl⟩ := List.mem_map.1 hx
    obtain ⟨b, hb, e⟩ := hB.lead hp1 hp2 (h u hu) (hA.nz hu)
    exact List.mem_map.2 ⟨b, hb, e⟩
  obtain ⟨q1, q2⟩ := nodup_sub nA sub
  simp only [List.length_map] at q1 q2
  refine ⟨q1, fun e => SpE.of hp1 hp2 h fun b hb => ?_⟩
  have hbv := hB.vp b hb
  refine (hA.in_iff hp1 hp2 hbv).2 ?_
  apply Classical.byContradiction
  intro hn
  obtain ⟨s, m1, m2, m3⟩ := byW_sp hp1 hp2 (L := A) (M := A) (v := b) (fun _ h => h) hbv
  have hr : Sp' 8 p B (byW 8 p b A) := by
    rw [m3]
    exact (Sp'.mem hp1 hp2 hb hbv).add hp1 hp2 (m1.sub hp1 hp2 h)
  obtain ⟨c, hc, e2⟩ := hB.lead hp1 hp2 hr hn
  have hcA := q2 e _ (List.mem_map.2 ⟨c, hc, rfl⟩)
  obtain ⟨a, ha, e3⟩ := List.mem_map.1 hcA
  have h0 := hA.left hp1 hp2 hbv a ha
  have hl : fstW 8 (byW 8 p b A) < 8 := by rw [← e2, ← e3]; exact hA.fs a ha
  have := fstW_ne (W := 8) hl
  rw [e3, e2] at h0
  exact this h0
end
end Hf
namespace Hf
open Go Classical
section
variable {W : Nat} {p : Int}
theorem Sp'.at0 (hp : 1 ≤ p) (hp2 : p ≤ 256) {L : List By} {y : Nat} (h : ∀ r ∈ L, r y = 0) {v : By} (hv : Sp' W p L v) : v y = 0 := by
  induction hv with
  | z => rfl
  | a q1 q2 ih =>
    rename_i u w k
    by_cases hy : y < W
    · refine bz_eq0.1 ?_
      rw [bz_add hp hp2 hy, bz_eq0.2 ih, bz_eq0.2 (h _ q2)]; simp
    · exact (Vp.add hp hp2).2 y (by omega)
theorem add_add (hp : 1 ≤ p) (hp2 : p ≤ 256) {u e : By} {a b : Int} : addW W p (addW W p u e a) e b = addW W p u e (a + b) := by
  refine (Vp.add hp hp2).ext (Vp.add hp hp2) fun x hx => ?_
  refine (cg_add' hp hp2 hx).trans ?_
  refine (cg_add (cg_add' hp hp2 hx) cg.rfl').trans ?_
  refine cg.trans ?_ (cg_add' hp hp2 hx).symm
  exact cg_of_eq (by grind)
theorem sp_cons (hp : 1 ≤ p) (hp2 : p ≤ 256) {e : By} {E : List By} {v : By} (h : Sp' W p (e :: E) v) : ∃ u k, Sp' W p E u ∧ v = addW W p u e k := by
  induction h with
  | z => exact ⟨z0, 0, .z, (add_0 hp hp2 (Vp.z hp)).symm⟩
  | a q1 q2 ih =>
    rename_i u w k
    obtain ⟨u', k', hu', rfl⟩ := ih
    rcases List.mem_cons.1 q2 with rfl | q2
    · exact ⟨u', k' + k, hu', add_add hp hp2⟩
    · exact ⟨addW W p u' w k, k', .a hu' q2, add_comm' hp hp2⟩
theorem pr_0 (hp : Pr p) {a : UInt8} (ha : a ≠ 0) (ha2 : (a.toNat : Int) < p) {k : Int} (h : cg p (k * (a.toNat : Int)) 0) : cg p k 0 := by
  obtain ⟨-, h1⟩ := inv_ok hp ha ha2
  have hp2 := hp.1
  have e : cg p (((invN p a : Nat) : Int) * (a.toNat : Int)) 1 := by
    unfold cg; rw [h1, Int.emod_eq_of_lt (by omega) (by omega)]
  have q : cg p (k * (((invN p a : Nat) : Int) * (a.toNat : Int))) (k * 1) := cg_mul cg.rfl' e
  have q2 : cg p (((invN p a : Nat) : Int) * (k * (a.toNat : Int))) (((invN p a : Nat) : Int) * 0) := cg_mul cg.rfl' h
  refine (cg_of_eq (by grind)).trans (q.symm.trans ((cg_of_eq (by grind)).trans (q2.trans (cg_of_eq (by grind)))))
/-- rows in steps -/
structure Ech (W : Nat) (p : Int) (E : List By) : Prop where
  vp : ∀ e ∈ E, Vp W p e
  ld : ∀ e ∈ E, fstW W e < W
  st : E.Pairwise fun a b => fstW W a < fstW W b
theorem Ech.lead (hp : Pr p) : ∀ {E : List By}, Ech W p E → ∀ {v : By}, Sp' W p E v → v ≠ z0 → ∃ e ∈ E, fstW W e = fstW W v
  | [], _, v, hv, hn => by
    cases hv with
    | z => exact absurd rfl hn
    | a _ h => cases h
  | e :: E, h, v, hv, hn => by
    have hp1 := hp.1
    have hp2 := hp.2.1
    obtain ⟨u, k, hu, rfl⟩ := sp_cons (by omega) (by omega) hv
    have hE : Ech W p E := ⟨fun x hx => h.vp x (List.mem_cons_of_mem _ hx), fun x hx => h.ld x (List.mem_cons_of_mem _ hx), (List.pairwise_cons.1 h.st).2⟩
    have hgt := (List.pairwise_cons.1 h.st).1
    have hu0 : ∀ y, y ≤ fstW W e → u y = 0 := fun y hy => Sp'.at0 (by omega) (by omega) (fun r hr => fstW_lt (W := W) (by have := hgt r hr; omega)) hu
    have hl := h.ld e (by simp)
    have hev := h.vp e (by simp)
    by_cases q : cg p k 0
    · have e1 : addW W p u e k = u := (Vp.add (by omega) (by omega)).ext (hu.vp (by omega) (by omega)) fun x hx =>
        (cg_add' (by omega) (by omega) hx).trans ((cg_add cg.rfl' (cg_mul q cg.rfl')).trans (cg_of_eq (by grind)))
      rw [e1] at hn ⊢
      obtain ⟨b, hb, hb2⟩ := hE.lead hp hu hn
      exact ⟨b, List.mem_cons_of_mem _ hb, hb2⟩
    · refine ⟨e, by simp, (fstW_eq hl ?_ fun y hy => ?_).symm⟩
      · intro h0
        refine q (pr_0 hp (fstW_ne hl) (hev.1 _) ?_)
        have := cg_add' (W := W) (v := u) (w := e) (k := k) (by omega : 1 ≤ p) (by omega) hl
        rw [bz_eq0.2 h0, bz_eq0.2 (hu0 _ (Nat.le_refl _)), Int.zero_add] at this
        exact this.symm
      · refine bz_eq0.1 ?_
        rw [bz_add (by omega) (by omega) (by omega), bz_eq0.2 (hu0 y (by omega)), bz_eq0.2 (fstW_lt hy)]; simp
theorem ech_le (hp : Pr p) {A B : List By} (hA : A.Pairwise fun a b => fstW W a < fstW W b) (hB : B.Pairwise fun a b => fstW W a < fstW W b) (h : ∀ a ∈ A, ∃ b ∈ B, fstW W b = fstW W a) : A.length ≤ B.length := by
  have nd : ∀ {L : List By}, L.Pairwise (fun a b => fstW W a < fstW W b) → (L.map (fstW W)).Nodup := fun h => by
    rw [List.Nodup, List.pairwise_map]
    exact h.imp fun h => by omega
  have hs : (A.map (fstW W)).length ≤ (B.map (fstW W)).length := (nodup_sub (nd hA) fun x hx => by
    obtain ⟨a, ha, rfl⟩ := List.mem_map.1 hx
    obtain ⟨b, hb, e⟩ := h a ha
    rw [← e]; exact List.mem_map_of_mem hb).1
  simpa using hs
/-- rows in steps are as many as the reduced rows of their space -/
theorem Ech.len (hp : Pr p) {E B : List By} (hE : Ech W p E) (hB : RR W p B) (h : SpE W p E B) : E.length = B.length := by
  have hp1 := hp.1
  have hp2 := hp.2.1
  have hBs : B.Pairwise fun a b => fstW W a < fstW W b := hB.st.imp fun h => h.1
  have nz : ∀ {v : By}, fstW W v < W → v ≠ z0 := fun hv e => fstW_ne hv (by rw [e]; rfl)
  refine Nat.le_antisymm (ech_le hp hE.st hBs fun a ha => ?_) (ech_le hp hBs hE.st fun b hb => ?_)
  · exact hB.lead (by omega) (by omega) ((h a).1 (.mem (by omega) (by omega) ha (hE.vp a ha))) (nz (hE.ld a ha))
  · exact hE.lead hp ((h b).2 (.mem (by omega) (by omega) hb (hB.vp b hb))) (nz (hB.ld b hb).1)
end
end Hf
namespace Hf
open Go Classical
section
variable {W : Nat} {p : Int}
/-- the first row from r on with an entry in column c, or all -/
def fwB (R : List By) (r c : Nat) : Nat := fstN (fun i => (R.getD i z0) c != 0) (R.length - r) r
def fwF (p : Int) (v row : By) (c : Nat) : Int := bz v c * ((invN p (row c) : Nat) : Int) % p
/-- row i behind the step -/
def fwR (W : Nat) (p : Int) (R : List By) (r c b i : Nat) : By :=
  if i = r then R.getD b z0 else if r < i then addW W p (if i = b then R.getD r z0 else R.getD i z0) (R.getD b z0) (-(fwF p (if i = b then R.getD r z0 else R.getD i z0) (R.getD b z0) c)) else R.getD i z0
def fwL (W : Nat) (p : Int) (R : List By) (r c b : Nat) : List By := (List.range R.length).map (fwR W p R r c b)
theorem fwL_len {R : List By} {r c b : Nat} : (fwL W p R r c b).length = R.length := by simp [fwL]
theorem fwL_at {R : List By} {r c b i : Nat} (h : i < R.length) : (fwL W p R r c b).getD i z0 = fwR W p R r c b i := by simp [fwL, List.getD_eq_getElem?_getD, h]
/-- after so many columns -/
def fw (W : Nat) (p : Int) (R : List By) : Nat → List By × Nat
  | 0 => (R, 0)
  | c + 1 => let x := fw W p R c; let b := fwB x.1 x.2 c; if b = x.1.length then x else (fwL W p x.1 x.2 c b, x.2 + 1)
structure Fw (W : Nat) (p : Int) (R0 : List By) (c : Nat) (R : List By) (r : Nat) : Prop where
  len : R.length = R0.length
  vp : ∀ v ∈ R, Vp W p v
  sp : SpE W p R R0
  le : r ≤ R.length
  ld : ∀ i, i < r → fstW W (R.getD i z0) < c ∧ fstW W (R.getD i z0) < W
  st : ∀ i j, i < j → j < r → fstW W (R.getD i z0) < fstW W (R.getD j z0)
  ze : ∀ i, r ≤ i → i < R.length → ∀ y, y < c → (R.getD i z0) y = 0
theorem vp_at {R : List By} (hp : 1 ≤ p) (h : ∀ v ∈ R, Vp W p v) (i : Nat) : Vp W p (R.getD i z0) := by
  by_cases hi : i < R.length
  · exact h _ (getD_mem hi)
  · rw [List.getD_eq_getElem?_getD, List.getElem?_eq_none (by omega)]; exact Vp.z hp
theorem mem_at' {L : List By} {u : By} (h : u ∈ L) : ∃ j, j < L.length ∧ L.getD j z0 = u := by
  obtain ⟨t, ht, rfl⟩ := List.mem_iff_getElem.1 h
  exact ⟨t, ht, by rw [List.getD_eq_getElem?_getD, List.getElem?_eq_getElem ht]; rfl⟩
theorem Fw.step (hp : Pr p) {R0 R : List By} {r c : Nat} (h : Fw W p R0 c R r) (hc : c < W) :
    if fwB R r c = R.length then Fw W p R0 (c + 1) R r else Fw W p R0 (c + 1) (fwL W p R r c (fwB R r c)) (r + 1) := by
  have hp1 := hp.1
  have hp2 := hp.2.1
  have hle := h.le
  have hva := vp_at (by omega) h.vp
  have hge := @fstN_ge (fun i => (R.getD i z0) c != 0) (R.length - r) r
  have hb1 : r ≤ fwB R r c := hge.1
  have hb2 : fwB R r c ≤ R.length := by unfold fwB; omega
  split
  · rename_i e
    refine ⟨h.len, h.vp, h.sp, h.le, fun i hi => ⟨by have := (h.ld i hi).1; omega, (h.ld i hi).2⟩, h.st, fun i h1 h2 y hy => ?_⟩
    by_cases q : y < c
    · exact h.ze i h1 h2 y q
    · obtain rfl : y = c := by omega
      have := @fstN_none (fun i => (R.getD i z0) y != 0) (R.length - r) r i h1 (by have e' : fstN (fun i => (R.getD i z0) y != 0) (R.length - r) r = R.length := e; omega)
      simpa using this
  · rename_i e
    have hbl : fwB R r c < R.length := by omega
    generalize hbd : fwB R r c = b at *
    have hbne : (R.getD b z0) c ≠ 0 := by
      have := @fstN_some (fun i => (R.getD i z0) c != 0) (R.length - r) r (by have e' : fstN (fun i => (R.getD i z0) c != 0) (R.length - r) r = b := hbd; omega)
      rw [show fstN (fun i => (R.getD i z0) c != 0) (R.length - r) r = b from hbd] at this
      simpa using this
    have hb0 : ∀ y, y < c → (R.getD b z0) y = 0 := h.ze b hb1 hbl
    have hbf : fstW W (R.getD b z0) = c := fstW_eq hc hbne hb0
    -- the row that is reduced
    have hw : ∀ i, r < i → i < R.length → ∃ j, r ≤ j ∧ j < R.length ∧ (if i = b then R.getD r z0 else R.getD i z0) = R.getD j z0 := fun i h1 h2 => by
      by_cases q : i = b
      · exact ⟨r, Nat.le_refl _, by omega, if_pos q⟩
      · exact ⟨i, by omega, h2, if_neg q⟩
    have hN : ∀ i, i < R.length → Vp W p (fwR W p R r c b i) := fun i hi => by
      unfold fwR
      split
      · exact hva b
      · split
        · exact Vp.add (by omega) (by omega)
        · exact hva i
    have hNm : ∀ i, i < R.length → fwR W p R r c b i ∈ fwL W p R r c b := fun i hi => List.mem_map_of_mem (List.mem_range.2 hi)
    have hRm : ∀ i, i < R.length → Sp' W p R (R.getD i z0) := fun i hi => .mem (by omega) (by omega) (getD_mem hi) (hva i)
    have hNs : ∀ i, i < R.length → Sp' W p (fwL W p R r c b) (fwR W p R r c b i) := fun i hi => .mem (by omega) (by omega) (hNm i hi) (hN i hi)
    have hrow : Sp' W p (fwL W p R r c b) (R.getD b z0) := by
      have := hNs r (by omega)
      unfold fwR at this; rwa [if_pos rfl] at this
    have back : ∀ i, r < i → i < R.length → Sp' W p (fwL W p R r c b) (if i = b then R.getD r z0 else R.getD i z0) := fun i h1 h2 => by
      have q := hNs i h2
      unfold fwR at q
      rw [if_neg (by omega), if_pos h1] at q
      generalize hv : (if i = b then R.getD r z0 else R.getD i z0) = v at q ⊢
      have q2 := q.add (k := fwF p v (R.getD b z0) c) (by omega) (by omega) hrow
      rw [add_add (by omega) (by omega), show -(fwF p v (R.getD b z0) c) + fwF p v (R.getD b z0) c = 0 by omega] at q2
      have hvv : Vp W p v := by
        rw [← hv]; split
        · exact hva r
        · exact hva i
      rwa [add_0 (by omega) (by omega) hvv] at q2
    refine ⟨by rw [fwL_len]; exact h.len, ?_, ?_, by rw [fwL_len]; omega, ?_, ?_, ?_⟩
    · intro v hv
      obtain ⟨i, hi, rfl⟩ := List.mem_map.1 hv
      exact hN i (List.mem_range.1 hi)
    · refine (SpE.of (by omega) (by omega) (fun v hv => ?_) fun v hv => ?_).trans h.sp
      · obtain ⟨i, hi, rfl⟩ := List.mem_map.1 hv
        have hi := List.mem_range.1 hi
        unfold fwR
        split
        · exact hRm b hbl
        · split
          · rename_i h1
            obtain ⟨j, hj1, hj2, ej⟩ := hw i h1 hi
            rw [ej]
            exact (hRm j hj2).add (by omega) (by omega) (hRm b hbl)
          · exact hRm i hi
      · obtain ⟨i, hi, rfl⟩ := mem_at' hv
        rcases Nat.lt_trichotomy i r with q | q | q
        · have := hNs i hi
          unfold fwR at this
          rwa [if_neg (by omega), if_neg (by omega)] at this
        · subst q
          by_cases e2 : b = i
          · rw [← e2]; rw [← e2] at hrow; exact hrow
          · have := back b (by omega) hbl
            rwa [if_pos rfl] at this
        · by_cases e2 : i = b
          · rw [e2]; exact hrow
          · have := back i q hi
            rwa [if_neg e2] at this
    · intro i hi
      rw [fwL_at (by omega)]
      unfold fwR
      by_cases q : i = r
      · rw [if_pos q, hbf]; exact ⟨by omega, hc⟩
      · rw [if_neg q, if_neg (by omega)]
        have := h.ld i (by omega)
        exact ⟨by omega, this.2⟩
    · intro i j hij hj
      rw [fwL_at (by omega), fwL_at (by omega)]
      unfold fwR
      rw [if_neg (show i ≠ r by omega), if_neg (show ¬ r < i by omega)]
      by_cases q : j = r
      · rw [if_pos q, hbf]; exact (h.ld i (by omega)).1
      · rw [if_neg q, if_neg (by omega)]
        exact h.st i j hij (by omega)
    · intro i h1 h2 y hy
      rw [fwL_len] at h2
      rw [fwL_at h2]
      unfold fwR
      rw [if_neg (by omega), if_pos (by omega)]
      obtain ⟨j, hj1, hj2, ej⟩ := hw i (by omega) h2
      rw [ej]
      refine bz_eq0.1 ?_
      rw [bz_add (by omega) (by omega) (by omega)]
      by_cases q : y < c
      · rw [bz_eq0.2 (h.ze j hj1 hj2 y q), bz_eq0.2 (hb0 y q)]; simp
      · obtain rfl : y = c := by omega
        have hx2 := (hva b).1 y
        obtain ⟨-, hinv⟩ := inv_ok hp hbne hx2
        have e1 : cg p (((invN p ((R.getD b z0) y) : Nat) : Int) * bz (R.getD b z0) y) 1 := by
          unfold cg; rw [show bz (R.getD b z0) y = (((R.getD b z0) y).toNat : Int) from rfl, hinv, Int.emod_eq_of_lt (by omega) (by omega)]
        have e2 : cg p (fwF p (R.getD j z0) (R.getD b z0) y * bz (R.getD b z0) y) (bz (R.getD j z0) y) := by
          have : cg p (fwF p (R.getD j z0) (R.getD b z0) y) (bz (R.getD j z0) y * ((invN p ((R.getD b z0) y) : Nat) : Int)) := by unfold fwF cg; rw [Int.emod_emod_of_dvd _ (Int.dvd_refl p)]
          refine (cg_mul this cg.rfl').trans ((cg_of_eq (by rw [Int.mul_assoc])).trans ((cg_mul cg.rfl' e1).trans (cg_of_eq (by omega))))
        have e3 : cg p (bz (R.getD j z0) y + -(fwF p (R.getD j z0) (R.getD b z0) y) * bz (R.getD b z0) y) 0 := by
          refine (cg_of_eq (by grind)).trans ((cg_add (cg.rfl' (a := bz (R.getD j z0) y)) (cg_mul (cg.rfl' (a := -1)) e2)).trans (cg_of_eq (by grind)))
        unfold cg at e3; rw [e3]; simp
theorem Fw.all (hp : Pr p) {R0 : List By} (h : ∀ v ∈ R0, Vp W p v) : ∀ {c : Nat}, c ≤ W → Fw W p R0 c (fw W p R0 c).1 (fw W p R0 c).2
  | 0, _ => ⟨rfl, h, SpE.rfl', Nat.zero_le _, fun i hi => absurd hi (Nat.not_lt_zero _), fun i j _ hj => absurd hj (Nat.not_lt_zero _), fun i _ _ y hy => absurd hy (Nat.not_lt_zero _)⟩
  | c + 1, hc => by
    have q := (Fw.all hp h (c := c) (by omega)).step hp (by omega)
    simp only [fw]
    split
    · rename_i e; rw [if_pos e] at q; exact q
    · rename_i e; rw [if_neg e] at q; exact q
end
end Hf
namespace Hf
open Go Classical
variable {P : Program} {ρ : Nat → FuncId}
/-- a row of numbers -/
def IRow (H : List Blk) (W : Nat) (a : At) (v : By) : Prop := VI H a ((List.range W).map fun x => bz v x) ∧ a.cell1 = true
def IRows (H : List Blk) (W : Nat) (ra : At) (As : List At) (R : List By) : Prop := As.length = R.length ∧ ∀ i, i < As.length → IRow H W (As.getD i .sn) (R.getD i z0) ∧ ∀ k ∈ spB (As.getD i .sn), k ∉ spB ra
theorem rdR_fr {l : List Nat} {H H' : List Blk} {a : At} {L : List At} (h : rdR H a L) (e : Fr l H H') (hn : ∀ k ∈ spB a, k ∉ l) : rdR H' a L := by
  cases a with
  | sl k o m c =>
    obtain ⟨r, q, hk, h1, h2⟩ := h
    exact ⟨r, q, e _ _ (hn k (by simp [spB])) hk, h1, h2⟩
  | sn => exact h
  | _ => exact h.elim
theorem IRow.fr {l : List Nat} {H H' : List Blk} {W : Nat} {a : At} {v : By} (h : IRow H W a v) (e : Fr l H H') (hn : ∀ k ∈ spB a, k ∉ l) : IRow H' W a v := ⟨rdR_fr h.1 e hn, h.2⟩
theorem IRow.ext {H H' : List Blk} {W : Nat} {a : At} {v : By} (h : IRow H W a v) (e : Ext H H') : IRow H' W a v := ⟨h.1.ext e, h.2⟩
theorem IRow.len {H : List Blk} {W : Nat} {a : At} {v : By} (h : IRow H W a v) : lenA a = some W := by have := h.1.len; rwa [List.length_map, List.length_range] at this
theorem IRow.at {H : List Blk} {W : Nat} {a : At} {v : By} (h : IRow H W a v) (x : Nat) (hx : x < W) :
    ∃ k off len cap q, a = .sl k off len cap ∧ x < len ∧ off + x * 1 = q ∧ ∃ r l, H[k]? = some ⟨r, .rw l⟩ ∧ l[q]? = some (.i .i64 (bz v x)) := by
  obtain ⟨k, off, len, cap, q, h1, h2, h3, r, l, h4, h5⟩ := h.1.at x (by simpa using hx)
  refine ⟨k, off, len, cap, q, h1, h2, h3, r, l, h4, ?_⟩
  rw [h5]; simp [List.getD_eq_getElem?_getD, hx]
end Hf
namespace Hf
open Go Classical
section
variable {a b i x z y w t W : Nat} {p : Int} {m k : By}
/-- one more row -/
theorem IRows.app {G G' : List Blk} {ra ra' r : At} {As : List At} {R : List By} {v : By} (h : IRows G W ra As R) (hf : Fr (spB ra) G G') (hr : IRow G W r v) (hd : ∀ j ∈ spB r, j ∉ spB ra) (hb : (spB ra' = spB ra ∧ ra ≠ .sn) ∨ spB ra' = [G.length]) (hlt : ∀ i, i < As.length → ∀ j ∈ spB (As.getD i .sn), j < G.length) (hrl : ∀ j ∈ spB r, j < G.length) :
    IRows G' W ra' (As ++ [r]) (R ++ [v]) := by
  have hnot : ∀ s : At, (∀ j ∈ spB s, j ∉ spB ra) → (∀ j ∈ spB s, j < G.length) → ∀ j ∈ spB s, j ∉ spB ra' := fun s h1 h2 j hj => by
    rcases hb with q | q
    · rw [q.1]; exact h1 j hj
    · rw [q]; have := h2 j hj; simp; omega
  refine ⟨by simp [h.1], fun i hi => ?_⟩
  by_cases e : i < As.length
  · have e1 : (As ++ [r]).getD i .sn = As.getD i .sn := by simp [List.getD_eq_getElem?_getD, List.getElem?_append_left e]
    have e2 : (R ++ [v]).getD i z0 = R.getD i z0 := by simp [List.getD_eq_getElem?_getD, List.getElem?_append_left (h.1 ▸ e)]
    rw [e1, e2]
    obtain ⟨h1, h2⟩ := h.2 i e
    exact ⟨h1.fr hf h2, hnot _ h2 (hlt i e)⟩
  · obtain rfl : i = As.length := by simp at hi; omega
    have e1 : (As ++ [r]).getD As.length .sn = r := by simp [List.getD_eq_getElem?_getD]
    have e2 : (R ++ [v]).getD As.length z0 = v := by rw [h.1]; simp [List.getD_eq_getElem?_getD]
    rw [e1, e2]
    exact ⟨hr.fr hf hd, hnot _ hd hrl⟩
theorem IRow.blt {G : List Blk} {r : At} {v : By} (h : IRow G W r v) : ∀ j ∈ spB r, j < G.length := by
  cases r with
  | sl k o n c =>
    obtain ⟨⟨_, _, h1, -⟩, -⟩ := h
    have := lt_of h1
    simp [spB, this]
  | _ => simp [spB]
end
end Hf
namespace Hf
open Go Classical
variable {P : Program} {ρ : Nat → FuncId}
theorem addN {x y : Nat} (h : x + y ≤ 1000000) : w64 ((x : Int) + (y : Int)) = ((x + y : Nat) : Int) := by
  rw [← Int.natCast_add]; exact w64_id _ (by omega) (by omega)
theorem cat_bq {hd : List Int} {N x : Nat} {f : By} (q : Nat) (e : x = q) (h1 : hd.length ≤ q) (h2 : q < N) : cat (.by hd N f) x = some (.u (f q)) := by
  subst e
  simp only [cat]
  rw [if_pos h2, List.getElem?_eq_none h1]
theorem IRows.ext {H H' : List Blk} {W : Nat} {ra : At} {As : List At} {R : List By} (h : IRows H W ra As R) (e : Ext H H') : IRows H' W ra As R := ⟨h.1, fun i hi => ⟨(h.2 i hi).1.ext e, (h.2 i hi).2⟩⟩
end Hf
namespace Hf
open Go Classical
variable {P : Program} {ρ : Nat → FuncId}
/-- the code, as it lies in the blocks -/
def CB (H : List Blk) (a : At) : Prop := a = .sn ∨ ∃ k off len cap r cs fz, a = .sl k off len cap ∧ H[k]? = some ⟨r, .fo cs fz⟩ ∧ len ≤ 4096 ∧ ∀ y, y < len → ∃ u : UInt8, cs[off + y]? = some (.int .u8 (u.toNat : Int))
theorem CB.len {H : List Blk} {a : At} (h : CB H a) : ∃ n, lenA a = some n ∧ n ≤ 4096 := by
  rcases h with rfl | ⟨k, off, len, cap, r, cs, fz, rfl, -, h, -⟩
  · exact ⟨0, rfl, by omega⟩
  · exact ⟨len, rfl, h⟩
theorem CB.at {H : List Blk} {a : At} {n : Nat} (h : CB H a) (hn : lenA a = some n) (y : Nat) (hy : y < n) : ∃ k off len cap B u, a = .sl k off len cap ∧ y < len ∧ H[k]? = some B ∧ cat B.c (off + y * 1) = some (.u u) := by
  rcases h with rfl | ⟨k, off, len, cap, r, cs, fz, rfl, h1, -, h2⟩
  · simp [lenA] at hn; omega
  · have hn : len = n := by simpa [lenA] using hn
    subst hn
    obtain ⟨u, hu⟩ := h2 y hy
    refine ⟨k, off, len, cap, _, u, rfl, hy, h1, ?_⟩
    have hle := toNat_le u
    simp only [cat, Nat.mul_one, hu]
    rw [if_pos ⟨by omega, by omega⟩]
    have e : byt (u.toNat : Int) = u := by
      apply UInt8.toNat_inj.1
      have := byt_toNat (u.toNat : Int)
      omega
    rw [e]
theorem CB.ext {H G : List Blk} {a : At} (h : CB H a) (e : Ext H G) : CB G a := by
  rcases h with rfl | ⟨k, off, len, cap, r, cs, fz, rfl, h1, h2⟩
  · exact .inl rfl
  · exact .inr ⟨k, off, len, cap, r, cs, fz, rfl, e _ _ h1, h2⟩
theorem CB.lt {H : List Blk} {a : At} (h : CB H a) : a.lt H.length = true := by
  rcases h with rfl | ⟨k, off, len, cap, r, cs, fz, rfl, h1, -⟩
  · rfl
  · simp [At.lt, lt_of h1]
theorem CB.cell {H : List Blk} {a : At} (h : CB H a) : a.cell1 = true := by
  rcases h with rfl | ⟨k, off, len, cap, r, cs, fz, rfl, -⟩ <;> rfl
/-- a block that is none of the input's -/
def own : Bk → Bool
  | .fo _ _ => false
  | _ => true
theorem CB.set {H : List Blk} {a : At} {k : Nat} {A B : Blk} (h : CB H a) (hk : H[k]? = some A) (ho : own A.c = true) : CB (H.set k B) a := by
  rcases h with rfl | ⟨j, off, len, cap, r, cs, fz, rfl, h1, h2⟩
  · exact .inl rfl
  · refine .inr ⟨j, off, len, cap, r, cs, fz, rfl, set_other h1 ?_, h2⟩
    intro q; subst q
    rw [hk] at h1; cases h1; cases ho
/-- a source of numbers lies in block s -/
def Src (H : List Blk) (s : Nat) : Prop := ∃ (code : At) (j : Nat) (h : Int), H[s]? = some ⟨false, .rw [code, .i .i64 (j : Int), .i .u64 h]⟩ ∧ CB H code ∧ j ≤ 4096
theorem Src.lt {H : List Blk} {s : Nat} (h : Src H s) : s < H.length := by
  obtain ⟨c, j, k, h, -⟩ := h; exact lt_of h
theorem Src.ext {H G : List Blk} {s : Nat} (h : Src H s) (e : Ext H G) : Src G s := by
  obtain ⟨c, j, k, h1, h2, h3⟩ := h; exact ⟨c, j, k, e _ _ h1, h2.ext e, h3⟩
theorem Src.set {H : List Blk} {s k : Nat} {A B : Blk} (h : Src H s) (hk : H[k]? = some A) (ho : own A.c = true) (hn : s ≠ k) : Src (H.set k B) s := by
  obtain ⟨c, j, x, h1, h2, h3⟩ := h; exact ⟨c, j, x, set_other h1 (Ne.symm hn), h2.set hk ho, h3⟩
theorem src_upd {H : List Blk} {s : Nat} {A : Blk} {code : At} {j : Nat} {x : Int} (hs : H[s]? = some A) (ho : own A.c = true) (hc : CB H code) (hj : j ≤ 4096) :
    Fr [s] H (H.set s ⟨false, .rw [code, .i .i64 (j : Int), .i .u64 x]⟩) ∧ Src (H.set s ⟨false, .rw [code, .i .i64 (j : Int), .i .u64 x]⟩) s :=
  ⟨fun k B hk e => set_other e (by intro q; subst q; exact hk (by simp)), code, j, x, set_same hs, hc.set hs ho, hj⟩
theorem Fr.len {s : Nat} {H G : List Blk} (h : Fr [s] H G) (hs : s < G.length) : H.length ≤ G.length := by
  rcases Nat.lt_or_ge (s + 1) H.length with q | q
  · have := h (H.length - 1) H[H.length - 1] (by simp; omega) (by simp [show H.length - 1 < H.length by omega])
    have := lt_of this
    omega
  · omega
theorem Fr.get {s k : Nat} {H G : List Blk} {B : Blk} (h : Fr [s] H G) (hk : H[k]? = some B) (hn : k ≠ s) : G[k]? = some B := h k B (by simpa using hn) hk
theorem and_bd {m : Int} : 0 ≤ IntKind.u64.wrap ((BitVec.ofInt 64 m &&& BitVec.ofInt 64 16777215).toNat : Int) ∧ IntKind.u64.wrap ((BitVec.ofInt 64 m &&& BitVec.ofInt 64 16777215).toNat : Int) ≤ 16777215 := by
  have h : (BitVec.ofInt 64 m &&& BitVec.ofInt 64 16777215).toNat ≤ 16777215 := by
    rw [BitVec.toNat_and]
    exact Nat.le_trans Nat.and_le_right (by decide)
  generalize (BitVec.ofInt 64 m &&& BitVec.ofInt 64 16777215).toNat = x at h
  simp [IntKind.wrap, IntKind.bits, IntKind.signed]
  omega
theorem tmod_bd {x n : Int} (hx : 0 ≤ x) (hn : ¬ n < 1) : 0 ≤ x.tmod n ∧ x.tmod n < n := ⟨Int.tmod_nonneg n hx, Int.tmod_lt_of_pos x (by omega)⟩
theorem l_big_ok (B : Bs P ρ) (E : F_l_big P ρ) {H : List Blk} {a : At} {n : Nat} (hn : lenA a = some n) (hlt : a.lt H.length = true) :
    CallR P ρ 176 [a] H (fun u G => u = .one (.b (decide ((n : Int) > 4096))) ∧ G = H) := by
  refine call_of_q B.fn B.mo E rfl (fun hAr hHp => ?_) (by simp only [List.all_cons, List.all_nil, hlt]; rfl)
  refine ⟨n, hn, ?_⟩
  exact ⟨rfl, rfl, rfl⟩

theorem s_l01From_ok (B : Bs P ρ) (E : F_s_l01From P ρ) {H : List Blk} {a : At} (hC : CB H a) :
    CallR P ρ 186 [a] H (fun u G => u = .one (.pt H.length 0) ∧ Ext H G ∧ Src G H.length) := by
  obtain ⟨n, hn, hn2⟩ := hC.len
  refine call_of_q B.fn B.mo E rfl (fun hAr hHp => ?_) (by simp only [List.all_cons, List.all_nil, hC.lt]; rfl)
  refine ⟨n, hn, ?_⟩
  refine ⟨_, rfl, ?_⟩
  refine ⟨_, rfl, ?_⟩
  refine ⟨hC.cell, rfl, ?_⟩
  refine ⟨_, rfl, by show (a.cell1 && _) = true; rw [hC.cell]; rfl, ?_⟩
  refine ⟨Unit, (fun a0 (i0 : Nat) (x0 : Unit) => [(0, a0), (3, .one (.pt H.length 0)), (4, .one (.i .i64 ((i0 : Nat) : Int)))]) _ , fun (i0 : Nat) (x0 : Unit) (G0 : List Blk) => (∃ h : Int, G0 = H ++ [⟨false, .rw [a, .i .i64 ((0 : Nat) : Int), .i .u64 h]⟩]), n, ⟨(), ⟨_, rfl⟩, ⟨rfl, rfl, rfl, trivial⟩⟩, ?_⟩
  rintro i0 _ G0 hi0 ⟨h, rfl⟩
  refine ⟨n, hn, ?_⟩
  refine ⟨fun h16 => ?_, fun h16 => ?_⟩
  · replace h16 := of_decide_eq_true h16
    refine brB_t ?_
    refine brB_t ?_
    refine ⟨fun h19 => ?_, fun h19 => ?_⟩
    · replace h19 := of_decide_eq_true h19
      refine ⟨_, _, get_new, rfl, ?_⟩
      refine ⟨_, rfl, ?_⟩
      have hcat := (hC.ext (Ext.app (G := [⟨false, .rw [a, .i .i64 ((0 : Nat) : Int), .i .u64 h]⟩]))).at hn i0 (by omega)
      obtain ⟨k, off, len, cap, B0, u, ea, hl, hk, hu⟩ := hcat
      refine ⟨k, off, len, cap, i0, _, ea, rfl, hl, rfl, ?_⟩
      refine ⟨_, _, hk, hu, ?_⟩
      refine ⟨_, rfl, ?_⟩
      refine ⟨_, rfl, ?_⟩
      refine ⟨_, _, _, get_new, cput_rw (by simp) rfl, eqBk_rfl, ?_⟩
      refine ⟨((i0 + 1 : Nat) : Int), w64_id _ (by omega) (by omega), ?_⟩
      exact ⟨by omega, (), ⟨_, app_set0⟩, ⟨rfl, rfl, rfl, trivial⟩⟩
    · replace h19 := of_decide_eq_false h19
      refine ⟨rfl, rfl, Ext.app, a, 0, h, get_new, hC.ext Ext.app, by omega⟩
  · replace h16 := of_decide_eq_false h16
    refine brB_f ?_
    refine brB_f ?_
    refine brB_f ?_
    refine ⟨rfl, rfl, Ext.app, a, 0, h, get_new, hC.ext Ext.app, by omega⟩

theorem s_l01Next_ok (B : Bs P ρ) (E : F_s_l01Next P ρ) {H : List Blk} {s : Nat} {n : Int} (hS : Src H s) :
    CallR P ρ 195 [.pt s 0, .i .i64 n] H (fun u G => ∃ z : Int, u = .one (.i .i64 z) ∧ (0 ≤ z ∧ (n < 1 → z = 0) ∧ (1 ≤ n → z < n)) ∧ Fr [s] H G ∧ Src G s) := by
  have hS2 := hS
  obtain ⟨code, j, h, hs, hC, hj⟩ := hS
  obtain ⟨m, hm, hm2⟩ := hC.len
  refine call_of_q B.fn B.mo E rfl (fun hAr hHp => ?_) (by simp [At.lt, hS2.lt])
  refine ⟨fun h7 => ?_, fun h7 => ?_⟩
  · replace h7 := of_decide_eq_true h7
    exact ⟨rfl, 0, rfl, ⟨by omega, fun _ => rfl, fun q => by omega⟩, Fr.refl, hS2⟩
  · replace h7 := of_decide_eq_false h7
    refine ⟨_, _, hs, rfl, ?_⟩
    refine ⟨_, rfl, ?_⟩
    refine ⟨_, rfl, ?_⟩
    refine ⟨_, _, _, hs, cput_rw (by simp) rfl, eqBk_rfl, ?_⟩
    refine ⟨_, _, set_same hs, rfl, ?_⟩
    refine ⟨_, rfl, ?_⟩
    refine ⟨_, rfl, ?_⟩
    have hb := @and_bd ((IntKind.u64.wrap (IntKind.u64.wrap (h * 6364136223846793005) + 1442695040888963407)).fdiv (2 ^ (min (33 : Int).toNat 64)))
    refine ⟨_, w64_id _ (by exact Int.le_trans (by decide) hb.1) (by exact Int.le_trans hb.2 (by decide)), ?_⟩
    refine ⟨_, _, set_same hs, rfl, ?_⟩
    refine ⟨_, _, set_same hs, rfl, ?_⟩
    refine ⟨m, hm, ?_⟩
    refine ⟨fun h33 => ?_, fun h33 => ?_⟩
    · replace h33 := of_decide_eq_true h33
      refine ⟨_, _, set_same hs, rfl, ?_⟩
      refine ⟨_, _, set_same hs, rfl, ?_⟩
      have hcat := (hC.set (B := ⟨false, .rw [code, .i .i64 (j : Int), .i .u64 (IntKind.u64.wrap (IntKind.u64.wrap (h * 6364136223846793005) + 1442695040888963407))]⟩) hs rfl).at hm j (by omega)
      obtain ⟨k, off, len, cap, B0, u, ea, hl, hk, hu⟩ := hcat
      have hule := toNat_le u
      refine ⟨k, off, len, cap, j, _, ea, rfl, hl, rfl, ?_⟩
      refine ⟨_, _, hk, hu, ?_⟩
      refine ⟨_, w64_id _ (by have := hb.1; omega) (by have := hb.2; omega), ?_⟩
      refine ⟨_, _, set_same hs, rfl, ?_⟩
      refine ⟨((j + 1 : Nat) : Int), w64_id _ (by omega) (by omega), ?_⟩
      refine ⟨_, _, _, set_same hs, cput_rw (by simp) rfl, eqBk_rfl, ?_⟩
      refine ⟨by omega, _, rfl, ?_⟩
      have ht := tmod_bd (n := n) (x := IntKind.u64.wrap ((BitVec.ofInt 64 ((IntKind.u64.wrap (IntKind.u64.wrap (h * 6364136223846793005) + 1442695040888963407)).fdiv (2 ^ (min (33 : Int).toNat 64))) &&& BitVec.ofInt 64 16777215).toNat : Int) + (u.toNat : Int)) (by have := hb.1; omega) h7
      rw [List.set_set]
      exact ⟨rfl, _, rfl, ⟨ht.1, fun q => absurd q h7, fun _ => ht.2⟩, src_upd hs rfl hC (by omega)⟩
    · replace h33 := of_decide_eq_false h33
      refine ⟨by omega, _, rfl, ?_⟩
      have ht := tmod_bd (n := n) hb.1 h7
      exact ⟨rfl, _, rfl, ⟨ht.1, fun q => absurd q h7, fun _ => ht.2⟩, src_upd hs rfl hC hj⟩


end Hf
namespace Hf
open Go Classical
theorem VS.fr {l : List Nat} {H H' : List Blk} {a : At} {L : List By} (h : VS H a L) (e : Fr l H H') (hn : ∀ k ∈ spB a, k ∉ l) : VS H' a L := by
  rcases h with h | ⟨k, off, cap, r, N, f, rfl, h2, h3, h4⟩
  · exact .inl h
  · exact .inr ⟨k, off, cap, r, N, f, rfl, e _ _ (hn k (by simp [spB])) h2, h3, h4⟩
theorem VW.fr {m : Nat} {l : List Nat} {H H' : List Blk} {a : At} {L : List By} (h : VW m H a L) (e : Fr l H H') (hn : blkOf a ∉ l) : VW m H' a L := by
  obtain ⟨k, off, cap, N, f, rfl, h2, h3, h4⟩ := h
  exact ⟨k, off, cap, N, f, rfl, e _ _ hn h2, h3, h4⟩
theorem VW.lt {m : Nat} {H : List Blk} {a : At} {L : List By} (h : VW m H a L) : blkOf a < H.length := by
  obtain ⟨k, off, cap, N, f, rfl, h2, h3, h4⟩ := h
  exact lt_of h2
theorem VW.sp {m : Nat} {H : List Blk} {a : At} {L : List By} (h : VW m H a L) : spB a = [blkOf a] := by
  obtain ⟨k, off, cap, N, f, rfl, h2, h3, h4⟩ := h
  rfl
theorem get_new1 {G : List Blk} {A B : Blk} : (G ++ [A] ++ [B])[G.length + 1]? = some B := by simp
end Hf
namespace Hf
open Go Classical
variable {P : Program} {ρ : Nat → FuncId}
theorem tmodN {x n : Nat} : ((x : Int)).tmod (n : Int) = ((x % n : Nat) : Int) := by
  rw [Int.tmod_eq_emod_of_nonneg (by omega)]; rfl
theorem Fr.set {s k : Nat} {H G : List Blk} {B : Blk} (h : Fr [s] H G) (hk : H.length ≤ k) : Fr [s] H (G.set k B) := fun j A hj e => by
  have := lt_of e
  exact set_other (h j A hj e) (by omega)
theorem VI.fr {l : List Nat} {H H' : List Blk} {a : At} {L : List Int} (h : VI H a L) (e : Fr l H H') (hn : ∀ k ∈ spB a, k ∉ l) : VI H' a L := rdR_fr h e hn
theorem s_l01Pick_ok (B : Bs P ρ) (E : F_s_l01Pick P ρ) {H : List Blk} {s : Nat} {a : At} {L : List Int} (hS : Src H s) (hV : VI H a L) (hlt : a.lt H.length = true) (hd : ∀ k ∈ spB a, k ≠ s) (hL : 0 < L.length) :
    CallR P ρ 205 [.pt s 0, a] H (fun u G => ∃ z : Int, z ∈ L ∧ u = .one (.i .i64 z) ∧ Fr [s] H G ∧ Src G s) := by
  refine call_of_q B.fn B.mo E.1 rfl (fun hAr hHp => ?_) (by simp only [List.all_cons, List.all_nil, hlt]; simp [At.lt, hS.lt])
  refine ⟨_, (hV).len, ?_⟩
  refine ⟨_, s_l01Next_ok B E.2 hS, ?_⟩
  rintro _ G9 ⟨z, rfl, hz, hf, hS9⟩
  obtain ⟨x, rfl⟩ : ∃ x : Nat, z = (x : Int) := ⟨z.toNat, by have := hz.1; omega⟩
  have hx : x < L.length := by have := hz.2.2 (by omega); omega
  have hVG := hV.fr hf (by simpa using hd)
  obtain ⟨k10, o10, n10, c10, q10, ea10, hl10, hq10, r10, l10, hk10, hi10⟩ := VI.at (hVG) x (by omega)
  refine ⟨k10, o10, n10, c10, x, q10, ea10, rfl, hl10, hq10, ?_⟩
  refine ⟨_, _, hk10, hi10, ?_⟩
  exact ⟨rfl, L.getD x 0, by rw [List.getD_eq_getElem?_getD, List.getElem?_eq_getElem hx]; exact List.getElem_mem hx, rfl, hf, hS9⟩

theorem s_l01DrawPrime_ok (B : Bs P ρ) (E : F_s_l01DrawPrime P ρ) {H : List Blk} {s : Nat} (hS : Src H s) :
    CallR P ρ 206 [.pt s 0] H (fun u G => ∃ z : Int, (2 ≤ z ∧ z ≤ 31) ∧ u = .one (.i .i64 z) ∧ Fr [s] H G ∧ Src G s) := by
  have hsl := hS.lt
  refine call_of_q B.fn B.mo E.1 rfl (fun hAr hHp => ?_) (by simp [At.lt, hS.lt])
  refine ⟨_, rfl, ?_⟩
  refine ⟨_, s_l01Pick_ok B E.2 (L := [2, 2, 3, 3, 5, 5, 7, 11, 31]) (hS.ext Ext.app) ⟨false, _, get_new, by simp, rfl⟩ (by simp [At.lt]) (by simp [spB]; omega) (by simp), ?_⟩
  rintro _ G5 ⟨z, hz, rfl, hf, hS5⟩
  exact ⟨rfl, z, by simp at hz; omega, rfl, (Ext.app.fr).trans hf, hS5⟩

theorem s_l01DrawVector_ok (B : Bs P ρ) (E : F_s_l01DrawVector P ρ) {H : List Blk} {s : Nat} {p n : Int} (hS : Src H s) :
    CallR P ρ 198 [.pt s 0, .i .i64 p, .i .i64 n] H (fun u G => ∃ f : By, u = .one (.ag [] 8 f) ∧ Fr [s] H G ∧ Src G s) := by
  have hsl := hS.lt
  refine call_of_q B.fn B.mo E.1 rfl (fun hAr hHp => ?_) (by simp [At.lt, hS.lt])
  refine ⟨_, rfl, ?_⟩
  refine ⟨H.length + 1, by simp, ?_⟩
  refine ⟨_, _, _, get_new1, cputs_by (by simp) (by omega), eqBk_rfl, ?_⟩
  refine ⟨Unit, (fun a0 a1 a2 a6 a7 (i0 : Nat) (x0 : Unit) => [(0, a0), (1, a1), (2, a2), (6, a6), (7, a7), (8, .one (.i .i64 ((i0 : Nat) : Int)))]) _ _ _ _ _ , fun (i0 : Nat) (x0 : Unit) (G0 : List Blk) => (Fr [s] H G0 ∧ Src G0 s ∧ (∃ f : By, G0[H.length + 1]? = some ⟨false, .by [] 8 f⟩) ∧ ∃ f : By, G0[H.length]? = some ⟨false, .by [] 8 f⟩), 8, ⟨(), ⟨(Ext.app.trans Ext.app).fr.set (Nat.le_succ _), ((hS.ext Ext.app).ext Ext.app).set get_new1 rfl (by omega), ⟨_, set_same get_new1⟩, ⟨_, set_other (app_old get_new) (by omega)⟩⟩, ⟨rfl, rfl, rfl, rfl, rfl, rfl, trivial⟩⟩, ?_⟩
  rintro i0 _ G0 hi0 ⟨hF0, hS0, ⟨f, hk0⟩, f0, hm0⟩
  refine ⟨fun h13 => ?_, fun h13 => ?_⟩
  · replace h13 := of_decide_eq_true h13
    refine brB_t ?_
    refine brB_t ?_
    refine ⟨fun h16 => ?_, fun h16 => ?_⟩
    · replace h16 := of_decide_eq_true h16
      refine ⟨_, s_l01Next_ok B E.2 hS0, ?_⟩
      rintro _ G20 ⟨z, rfl, hz, hf20, hS20⟩
      refine ⟨fun h21 => ?_, fun h21 => ?_⟩
      · replace h21 := eq_of_beq h21
        refine ⟨_, rfl, ?_⟩
        refine ⟨_, rfl, ?_⟩
        refine ⟨_, s_l01Next_ok B E.2 hS20, ?_⟩
        rintro _ G27 ⟨z27, rfl, hz27, hf27, hS27⟩
        refine ⟨i0, _, rfl, by omega, rfl, ?_⟩
        have hk27 := hf27.get (hf20.get hk0 (by omega)) (by omega)
        have hm27 := hf27.get (hf20.get hm0 (by omega)) (by omega)
        refine ⟨_, _, _, hk27, cput_u (by simp) (by omega), eqBk_rfl, ?_⟩
        refine ⟨((i0 + 1 : Nat) : Int), w64_id _ (by omega) (by omega), ?_⟩
        exact ⟨by omega, (), ⟨((hF0.trans hf20).trans hf27).set (Nat.le_succ _), hS27.set hk27 rfl (by omega), ⟨_, set_same hk27⟩, _, set_other hm27 (by omega)⟩, ⟨rfl, rfl, rfl, rfl, rfl, rfl, trivial⟩⟩
      · replace h21 := ne_of_beq_false h21
        refine ⟨((i0 + 1 : Nat) : Int), w64_id _ (by omega) (by omega), ?_⟩
        exact ⟨by omega, (), ⟨hF0.trans hf20, hS20, ⟨_, hf20.get hk0 (by omega)⟩, _, hf20.get hm0 (by omega)⟩, ⟨rfl, rfl, rfl, rfl, rfl, rfl, trivial⟩⟩
    · replace h16 := of_decide_eq_false h16
      refine ⟨_, _, _, _, _, hk0, ⟨by simp, by omega⟩, fun x _ => congrArg _ (Nat.zero_add x).symm, ?_⟩
      refine ⟨_, _, _, hm0, cputs_by (by simp) (by omega), eqBk_rfl, ?_⟩
      exact ⟨rfl, false, [], 8, _, f, set_same hm0, ⟨by simp, by omega⟩, fun x hx => by simp [spl, hx], ⟨f, rfl, hF0.set (Nat.le_refl _), hS0.set hm0 rfl (by omega)⟩⟩
  · replace h13 := of_decide_eq_false h13
    refine brB_f ?_
    refine brB_f ?_
    refine brB_f ?_
    refine ⟨_, _, _, _, _, hk0, ⟨by simp, by omega⟩, fun x _ => congrArg _ (Nat.zero_add x).symm, ?_⟩
    refine ⟨_, _, _, hm0, cputs_by (by simp) (by omega), eqBk_rfl, ?_⟩
    exact ⟨rfl, false, [], 8, _, f, set_same hm0, ⟨by simp, by omega⟩, fun x hx => by simp [spl, hx], ⟨f, rfl, hF0.set (Nat.le_refl _), hS0.set hm0 rfl (by omega)⟩⟩

theorem l_roll_ok (B : Bs P ρ) (E : F_l_roll P ρ) {H : List Blk} {a : At} {z : Int} (hC : CB H a) :
    CallR P ρ 183 [a, .i .u64 z] H (fun u G => u = .one (.pt H.length 0) ∧ Ext H G ∧ Src G H.length) := by
  obtain ⟨n, hn, hn2⟩ := hC.len
  refine call_of_q B.fn B.mo E rfl (fun hAr hHp => ?_) (by simp only [List.all_cons, List.all_nil, hC.lt]; rfl)
  refine ⟨_, rfl, ?_⟩
  refine ⟨n, hn, ?_⟩
  refine ⟨_, rfl, ?_⟩
  refine ⟨_, rfl, ?_⟩
  refine ⟨hC.cell, rfl, ?_⟩
  refine ⟨_, rfl, by show (a.cell1 && _) = true; rw [hC.cell]; rfl, ?_⟩
  refine ⟨Unit, (fun a0 (i0 : Nat) (x0 : Unit) => [(0, a0), (5, .one (.pt H.length 0)), (6, .one (.i .i64 ((i0 : Nat) : Int)))]) _ , fun (i0 : Nat) (x0 : Unit) (G0 : List Blk) => (∃ h : Int, G0 = H ++ [⟨false, .rw [a, .i .i64 ((0 : Nat) : Int), .i .u64 h]⟩]), n, ⟨(), ⟨_, rfl⟩, ⟨rfl, rfl, rfl, trivial⟩⟩, ?_⟩
  rintro i0 _ G0 hi0 ⟨h, rfl⟩
  refine ⟨n, hn, ?_⟩
  refine ⟨fun h19 => ?_, fun h19 => ?_⟩
  · replace h19 := of_decide_eq_true h19
    refine ⟨_, _, get_new, rfl, ?_⟩
    refine ⟨_, rfl, ?_⟩
    have hcat := (hC.ext (Ext.app (G := [⟨false, .rw [a, .i .i64 ((0 : Nat) : Int), .i .u64 h]⟩]))).at hn i0 (by omega)
    obtain ⟨k, off, len, cap, B0, u, ea, hl, hk, hu⟩ := hcat
    refine ⟨k, off, len, cap, i0, _, ea, rfl, hl, rfl, ?_⟩
    refine ⟨_, _, hk, hu, ?_⟩
    refine ⟨_, rfl, ?_⟩
    refine ⟨_, rfl, ?_⟩
    refine ⟨_, _, _, get_new, cput_rw (by simp) rfl, eqBk_rfl, ?_⟩
    refine ⟨((i0 + 1 : Nat) : Int), w64_id _ (by omega) (by omega), ?_⟩
    exact ⟨by omega, (), ⟨_, app_set0⟩, ⟨rfl, rfl, rfl, trivial⟩⟩
  · replace h19 := of_decide_eq_false h19
    have e0 : n = i0 := by omega
    subst e0
    refine ⟨rfl, rfl, Ext.app, a, 0, h, get_new, hC.ext Ext.app, by omega⟩

theorem l_dice_below_ok (B : Bs P ρ) (E : F_l_dice_below P ρ) {H : List Blk} {s : Nat} {n : Int} (hS : Src H s) :
    CallR P ρ 200 [.pt s 0, .i .i64 n] H (fun u G => ∃ z : Int, u = .one (.i .i64 z) ∧ (0 ≤ z ∧ (n < 1 → z = 0) ∧ (1 ≤ n → z < n)) ∧ Fr [s] H G ∧ Src G s) := by
  have hS2 := hS
  obtain ⟨code, j, h, hs, hC, hj⟩ := hS
  obtain ⟨m, hm, hm2⟩ := hC.len
  refine call_of_q B.fn B.mo E rfl (fun hAr hHp => ?_) (by simp [At.lt, hS2.lt])
  refine ⟨fun h7 => ?_, fun h7 => ?_⟩
  · replace h7 := of_decide_eq_true h7
    exact ⟨rfl, 0, rfl, ⟨by omega, fun _ => rfl, fun q => by omega⟩, Fr.refl, hS2⟩
  · replace h7 := of_decide_eq_false h7
    refine ⟨_, _, hs, rfl, ?_⟩
    refine ⟨_, rfl, ?_⟩
    refine ⟨_, rfl, ?_⟩
    refine ⟨_, _, _, hs, cput_rw (by simp) rfl, eqBk_rfl, ?_⟩
    refine ⟨_, _, set_same hs, rfl, ?_⟩
    refine ⟨_, rfl, ?_⟩
    refine ⟨_, rfl, ?_⟩
    have hb := @and_bd ((IntKind.u64.wrap (IntKind.u64.wrap (h * 6364136223846793005) + 1442695040888963407)).fdiv (2 ^ (min (33 : Int).toNat 64)))
    refine ⟨_, w64_id _ (by exact Int.le_trans (by decide) hb.1) (by exact Int.le_trans hb.2 (by decide)), ?_⟩
    refine ⟨_, _, set_same hs, rfl, ?_⟩
    refine ⟨_, _, set_same hs, rfl, ?_⟩
    refine ⟨m, hm, ?_⟩
    refine ⟨fun h33 => ?_, fun h33 => ?_⟩
    · replace h33 := of_decide_eq_true h33
      refine ⟨_, _, set_same hs, rfl, ?_⟩
      refine ⟨_, _, set_same hs, rfl, ?_⟩
      have hcat := (hC.set (B := ⟨false, .rw [code, .i .i64 (j : Int), .i .u64 (IntKind.u64.wrap (IntKind.u64.wrap (h * 6364136223846793005) + 1442695040888963407))]⟩) hs rfl).at hm j (by omega)
      obtain ⟨k, off, len, cap, B0, u, ea, hl, hk, hu⟩ := hcat
      have hule := toNat_le u
      refine ⟨k, off, len, cap, j, _, ea, rfl, hl, rfl, ?_⟩
      refine ⟨_, _, hk, hu, ?_⟩
      refine ⟨_, w64_id _ (by have := hb.1; omega) (by have := hb.2; omega), ?_⟩
      refine ⟨_, _, set_same hs, rfl, ?_⟩
      refine ⟨((j + 1 : Nat) : Int), w64_id _ (by omega) (by omega), ?_⟩
      refine ⟨_, _, _, set_same hs, cput_rw (by simp) rfl, eqBk_rfl, ?_⟩
      refine ⟨by omega, _, rfl, ?_⟩
      have ht := tmod_bd (n := n) (x := IntKind.u64.wrap ((BitVec.ofInt 64 ((IntKind.u64.wrap (IntKind.u64.wrap (h * 6364136223846793005) + 1442695040888963407)).fdiv (2 ^ (min (33 : Int).toNat 64))) &&& BitVec.ofInt 64 16777215).toNat : Int) + (u.toNat : Int)) (by have := hb.1; omega) h7
      rw [List.set_set]
      exact ⟨rfl, _, rfl, ⟨ht.1, fun q => absurd q h7, fun _ => ht.2⟩, src_upd hs rfl hC (by omega)⟩
    · replace h33 := of_decide_eq_false h33
      refine ⟨by omega, _, rfl, ?_⟩
      have ht := tmod_bd (n := n) hb.1 h7
      exact ⟨rfl, _, rfl, ⟨ht.1, fun q => absurd q h7, fun _ => ht.2⟩, src_upd hs rfl hC hj⟩

theorem l_vector9_ok (B : Bs P ρ) (E : F_l_vector9 P ρ) {H : List Blk} {s n : Nat} {p : Int} (hS : Src H s) (hp : 1 ≤ p) (hp2 : p ≤ 256) (hn : n ≤ 8) :
    CallR P ρ 192 [.pt s 0, .i .i64 p, .i .i64 (n : Int)] H (fun u G => ∃ f : By, u = .one (.ag [] 8 f) ∧ Vec p (n : Int) f 0 ∧ Fr [s] H G ∧ Src G s) := by
  have hsl := hS.lt
  refine call_of_q B.fn B.mo E.1 rfl (fun hAr hHp => ?_) (by simp [At.lt, hS.lt])
  refine ⟨_, rfl, ?_⟩
  refine ⟨H.length + 1, by simp, ?_⟩
  refine ⟨_, _, _, get_new1, cputs_by (by simp) (by omega), eqBk_rfl, ?_⟩
  refine ⟨Unit, (fun a0 a1 a2 a6 a7 (i0 : Nat) (x0 : Unit) => [(0, a0), (1, a1), (2, a2), (6, a6), (7, a7), (8, .one (.i .i64 ((i0 : Nat) : Int)))]) _ _ _ _ _ , fun (i0 : Nat) (x0 : Unit) (G0 : List Blk) => (Fr [s] H G0 ∧ Src G0 s ∧ (∃ f : By, G0[H.length + 1]? = some ⟨false, .by [] 8 f⟩ ∧ ∀ x, x < 8 → bz f x < p ∧ (i0 ≤ x → f x = 0)) ∧ ∃ f : By, G0[H.length]? = some ⟨false, .by [] 8 f⟩), n, ⟨(), ⟨(Ext.app.trans Ext.app).fr.set (Nat.le_succ _), ((hS.ext Ext.app).ext Ext.app).set get_new1 rfl (by omega), ⟨_, set_same get_new1, fun x hx => by simp [spl, bz]; omega⟩, ⟨_, set_other (app_old get_new) (by omega)⟩⟩, ⟨rfl, rfl, rfl, rfl, rfl, rfl, trivial⟩⟩, ?_⟩
  rintro i0 _ G0 hi0 ⟨hF0, hS0, ⟨f, hk0, hf0⟩, f0, hm0⟩
  refine ⟨fun h12 => ?_, fun h12 => ?_⟩
  · replace h12 := of_decide_eq_true h12
    refine ⟨_, l_dice_below_ok B E.2 hS0, ?_⟩
    rintro _ G18 ⟨z, rfl, hz, hf18, hS18⟩
    refine ⟨i0, _, rfl, by omega, rfl, ?_⟩
    have hk18 := hf18.get hk0 (by omega)
    have hm18 := hf18.get hm0 (by omega)
    refine ⟨_, _, _, hk18, cput_u (by simp) (by omega), eqBk_rfl, ?_⟩
    refine ⟨((i0 + 1 : Nat) : Int), w64_id _ (by omega) (by omega), ?_⟩
    refine ⟨by omega, (), ?_, ⟨rfl, rfl, rfl, rfl, rfl, rfl, trivial⟩⟩
    refine ⟨(hF0.trans hf18).set (Nat.le_succ _), hS18.set hk18 rfl (by omega), ⟨_, set_same hk18, fun x hx => ?_⟩, _, set_other hm18 (by omega)⟩
    rw [show 0 + i0 * 1 = i0 by omega]
    by_cases e : x = i0
    · subst e
      rw [show bz (upd f x (byt z)) x = ((byt z).toNat : Int) by unfold bz; rw [upd_same]]
      have := hz.2.2 (by omega)
      rw [bz_byt _ hz.1 (by omega)]
      exact ⟨this, fun q => by omega⟩
    · rw [show bz (upd f i0 (byt z)) x = bz f x by unfold bz; rw [upd_ne _ _ _ _ e], upd_ne _ _ _ _ e]
      exact ⟨(hf0 x hx).1, fun q => (hf0 x hx).2 (by omega)⟩
  · replace h12 := of_decide_eq_false h12
    have e0 : n = i0 := by omega
    subst e0
    refine ⟨_, _, _, _, _, hk0, ⟨by simp, by omega⟩, fun x _ => congrArg _ (Nat.zero_add x).symm, ?_⟩
    refine ⟨_, _, _, hm0, cputs_by (by simp) (by omega), eqBk_rfl, ?_⟩
    refine ⟨rfl, false, [], 8, _, f, set_same hm0, ⟨by simp, by omega⟩, fun x hx => by simp [spl, hx], ⟨f, rfl, fun k hk => ?_, hF0.set (Nat.le_refl _), hS0.set hm0 rfl (by omega)⟩⟩
    rw [Nat.zero_add]
    exact ⟨(hf0 k hk).1, fun q => by have := (hf0 k hk).2 (by omega); unfold bz; rw [this]; rfl⟩

end Hf
namespace Hf
open Go Classical
variable {P : Program} {ρ : Nat → FuncId}
/-- an algebra behind another one: u entries of the unit, i rows, of row i j columns, of column j k entries are in -/
def pfx (n m : Nat) (f g : By) (u i j k : Nat) : By := fun x =>
  if x < 10 then (if n + 2 ≤ x ∧ x < n + 2 + u then g (x - n) else f x)
  else if n ≤ (x - 10) / 64 ∧ (n ≤ (x - 10) / 8 % 8 ∧ (x - 10) / 8 % 8 < n + m) ∧ (n ≤ (x - 10) % 8 ∧ (x - 10) % 8 < n + m) ∧ ((x - 10) / 64 < n + i ∨ (x - 10) / 64 = n + i ∧ ((x - 10) / 8 % 8 < n + j ∨ (x - 10) / 8 % 8 = n + j ∧ (x - 10) % 8 < n + k))
    then g (10 + ((x - 10) / 64 - n) * 64 + ((x - 10) / 8 % 8 - n) * 8 + ((x - 10) % 8 - n)) else f x
theorem pfx_0 {n m : Nat} {f g : By} : f = pfx n m f g 0 0 0 0 := by
  funext x
  unfold pfx
  by_cases h : x < 10
  · rw [if_pos h, if_neg (by omega)]
  · rw [if_neg h, if_neg (by omega)]
theorem pfx_u {n m i : Nat} {f g : By} (h : n + i < 8) : upd (pfx n m f g i i 0 0) (2 + (n + i)) (g (2 + i)) = pfx n m f g (i + 1) i 0 0 := by
  funext x
  by_cases e : x = 2 + (n + i)
  · subst e
    rw [upd_same]
    unfold pfx
    rw [if_pos (by omega), if_pos (by omega)]; congr 1; omega
  · rw [upd_ne _ _ _ _ e]
    unfold pfx
    by_cases q : x < 10
    · rw [if_pos q, if_pos q]
      by_cases z : n + 2 ≤ x ∧ x < n + 2 + i
      · rw [if_pos z, if_pos (by omega)]
      · rw [if_neg z, if_neg (by omega)]
    · rw [if_neg q, if_neg q]
theorem pfx_m {n m u i j k : Nat} {f g : By} (hi : n + i < 8) (hj : n + j < 8) (hk : n + k < 8) (hjm : j < m) (hkm : k < m) : upd (pfx n m f g u i j k) (10 + (n + i) * 64 + (n + j) * 8 + (n + k)) (g (10 + i * 64 + j * 8 + k)) = pfx n m f g u i j (k + 1) := by
  funext x
  by_cases e : x = 10 + (n + i) * 64 + (n + j) * 8 + (n + k)
  · have e1 : (x - 10) / 64 = n + i := by omega
    have e2 : (x - 10) / 8 % 8 = n + j := by omega
    have e3 : (x - 10) % 8 = n + k := by omega
    rw [← e, upd_same]
    unfold pfx
    rw [if_neg (by omega), if_pos (by rw [e1, e2, e3]; omega), e1, e2, e3]; congr 1; omega
  · rw [upd_ne _ _ _ _ e]
    unfold pfx
    by_cases q : x < 10
    · rw [if_pos q, if_pos q]
    · rw [if_neg q, if_neg q]
      have e' : ¬ ((x - 10) / 64 = n + i ∧ (x - 10) / 8 % 8 = n + j ∧ (x - 10) % 8 = n + k) := by omega
      generalize (x - 10) / 64 = a at *
      generalize (x - 10) / 8 % 8 = b at *
      generalize (x - 10) % 8 = c at *
      by_cases z : n ≤ a ∧ (n ≤ b ∧ b < n + m) ∧ (n ≤ c ∧ c < n + m) ∧ (a < n + i ∨ a = n + i ∧ (b < n + j ∨ b = n + j ∧ c < n + k))
      · rw [if_pos z, if_pos (by omega)]
      · rw [if_neg z, if_neg (by omega)]
theorem pfx_j {n m u i j : Nat} {f g : By} : pfx n m f g u i j m = pfx n m f g u i (j + 1) 0 := by
  funext x
  unfold pfx
  by_cases q : x < 10
  · rw [if_pos q, if_pos q]
  · rw [if_neg q, if_neg q]
    generalize (x - 10) / 64 = a at *
    generalize (x - 10) / 8 % 8 = b at *
    generalize (x - 10) % 8 = c at *
    by_cases z : n ≤ a ∧ (n ≤ b ∧ b < n + m) ∧ (n ≤ c ∧ c < n + m) ∧ (a < n + i ∨ a = n + i ∧ (b < n + j ∨ b = n + j ∧ c < n + m))
    · rw [if_pos z, if_pos (by omega)]
    · rw [if_neg z, if_neg (by omega)]
theorem pfx_i {n m u i : Nat} {f g : By} : pfx n m f g u i m 0 = pfx n m f g u (i + 1) 0 0 := by
  funext x
  unfold pfx
  by_cases q : x < 10
  · rw [if_pos q, if_pos q]
  · rw [if_neg q, if_neg q]
    generalize (x - 10) / 64 = a at *
    generalize (x - 10) / 8 % 8 = b at *
    generalize (x - 10) % 8 = c at *
    by_cases z : n ≤ a ∧ (n ≤ b ∧ b < n + m) ∧ (n ≤ c ∧ c < n + m) ∧ (a < n + i ∨ a = n + i ∧ (b < n + m ∨ b = n + m ∧ c < n + 0))
    · rw [if_pos z, if_pos (by omega)]
    · rw [if_neg z, if_neg (by omega)]
theorem cput_i {hd : List Int} {N x : Nat} {f : By} {z : Int} (h : x < hd.length) (h2 : x < N) : cput (.by hd N f) x (.i .i64 z) = some (.by (hd.set x z) N f) := if_pos ⟨h, h2⟩
theorem cputs_2 {a b a' b' : Int} {N : Nat} {f g : By} : cputs (.by [a', b'] N f) 0 (.ag [a, b] N g) N = some (.by [a, b] N g) := if_pos ⟨rfl, rfl, rfl, rfl⟩
theorem pa0 {n m : Nat} {a b : Int} {f g : By} {X Y : Blk} : [(⟨false, .by [a, b] 522 f⟩ : Blk), X, Y] = [⟨false, .by [a, b] 522 (pfx n m f g 0 0 0 0)⟩, X, Y] := by rw [← pfx_0]
theorem pa1 {n m i : Nat} {a b : Int} {f g : By} {X Y : Blk} (h : n + i < 8) : [(⟨false, .by [a, b] 522 (upd (pfx n m f g i i 0 0) (0 + 2 + (n + i) * 1) (g (2 + i)))⟩ : Blk), X, Y] = [⟨false, .by [a, b] 522 (pfx n m f g (i + 1) i 0 0)⟩, X, Y] := by
  rw [← pfx_u h, show 0 + 2 + (n + i) * 1 = 2 + (n + i) by omega]
theorem app_set1 {H : List Blk} {A B C : Blk} : (H ++ [A] ++ [B]).set (H.length + 1) C = H ++ [A] ++ [C] := by
  have : H.length + 1 = (H ++ [A]).length := by simp
  rw [this, app_set0]
noncomputable def paC (p n q m : Int) (f g : By) : Int := if ¬ (Alg p n f ∧ Alg q m g) then 1 else if p ≠ q then 2 else if n + m > 8 then 3 else 0
noncomputable def paF (p n q m : Int) (f g : By) : By := if paC p n q m f g = 0 then pfx n.toNat m.toNat f g m.toNat m.toNat 0 0 else fun _ => 0
noncomputable def paV (p n q m : Int) (f g : By) : Sv := .tup [.ag [if paC p n q m f g = 0 then p else 0, if paC p n q m f g = 0 then n + m else 0] 522 (paF p n q m f g), .i .i64 (paC p n q m f g)]
theorem paV_n {p n q m c : Int} {f g : By} (h : paC p n q m f g = c) (hc : c ≠ 0) : paV p n q m f g = .tup [.ag [0, 0] 522 fun _ => 0, .i .i64 c] := by
  unfold paV paF
  rw [h, if_neg hc, if_neg hc, if_neg hc]
theorem s_ProductAlgebra_ok (B : Bs P ρ) (E : F_s_ProductAlgebra P ρ) {p n q m : Int} {f g : By} :
    CallOK P ρ 209 [.ag [p, n] 522 f, .ag [q, m] 522 g] [] (paV p n q m f g) [] := by
  refine (CallR.pure (call_of_q B.fn B.mo E.1 rfl (fun _ _ => ?_) rfl) rfl).ok
  refine ⟨_, rfl, ?_⟩
  refine ⟨_, rfl, ?_⟩
  refine ⟨_, rfl, ?_⟩
  refine .inl ⟨_, _, _, _, rfl, ⟨rfl, by omega⟩, ?_⟩
  refine ⟨_, s_l01Is_ok B E.2 (p := p) (n := n) (f := f), rfl, ?_⟩
  refine ⟨fun h14 => ?_, fun h14 => ?_⟩
  · skip
    have hA : ¬ Alg p n f := fun z => by rw [decide_eq_true z] at h14; cases h14
    have hc : paC p n q m f g = 1 := if_pos fun z => hA z.1
    refine brB_t ?_
    refine brB_t ?_
    refine brB_t ?_
    refine brB_t ?_
    refine ⟨_, _, _, get_new, cputs_2, eqBk_rfl, ?_⟩
    first
      | exact ⟨rfl, false, _, 522, _, rfl, ⟨rfl, by omega⟩, (paV_n hc (by decide)).symm, Ext.nil⟩
      | (refine ⟨rfl, false, _, 522, _, rfl, ⟨rfl, by omega⟩, ?_, Ext.nil⟩
         show _ = paV _ _ _ _ _ _
         unfold paV paF
         rw [hc, if_pos rfl, if_pos rfl, if_pos rfl]
         rfl)
  · skip
    have hA : Alg p n f := by simpa using h14
    refine .inl ⟨_, _, _, _, rfl, ⟨rfl, by omega⟩, ?_⟩
    refine brB_f ?_
    refine ⟨_, s_l01Is_ok B E.2 (p := q) (n := m) (f := g), rfl, ?_⟩
    refine brB_f ?_
    refine brB_f ?_
    refine ⟨fun h10 => ?_, fun h10 => ?_⟩
    · skip
      have hB : ¬ Alg q m g := fun z => by rw [decide_eq_true z] at h10; cases h10
      have hc : paC p n q m f g = 1 := if_pos fun z => hB z.2
      refine ⟨_, _, _, get_new, cputs_2, eqBk_rfl, ?_⟩
      first
        | exact ⟨rfl, false, _, 522, _, rfl, ⟨rfl, by omega⟩, (paV_n hc (by decide)).symm, Ext.nil⟩
        | (refine ⟨rfl, false, _, 522, _, rfl, ⟨rfl, by omega⟩, ?_, Ext.nil⟩
           show _ = paV _ _ _ _ _ _
           unfold paV paF
           rw [hc, if_pos rfl, if_pos rfl, if_pos rfl]
           rfl)
    · skip
      have hB : Alg q m g := by simpa using h10
      obtain ⟨n, rfl⟩ : ∃ k : Nat, n = (k : Int) := ⟨n.toNat, by have := hA.1.1.2.1; omega⟩
      obtain ⟨m, rfl⟩ : ∃ k : Nat, m = (k : Int) := ⟨m.toNat, by have := hB.1.1.2.1; omega⟩
      have hn8 : n ≤ 8 := by have := hA.1.1.2.2; omega
      have hm8 : m ≤ 8 := by have := hB.1.1.2.2; omega
      refine ⟨_, _, rfl, rfl, ?_⟩
      refine ⟨_, _, rfl, rfl, ?_⟩
      refine ⟨fun h20 => ?_, fun h20 => ?_⟩
      · replace h20 := bne_t h20
        have hc : paC p n q m f g = 2 := by unfold paC; rw [if_neg (by simpa using ⟨hA, hB⟩), if_pos h20]
        refine ⟨_, _, _, get_new, cputs_2, eqBk_rfl, ?_⟩
        first
          | exact ⟨rfl, false, _, 522, _, rfl, ⟨rfl, by omega⟩, (paV_n hc (by decide)).symm, Ext.nil⟩
          | (refine ⟨rfl, false, _, 522, _, rfl, ⟨rfl, by omega⟩, ?_, Ext.nil⟩
             show _ = paV _ _ _ _ _ _
             unfold paV paF
             rw [hc, if_pos rfl, if_pos rfl, if_pos rfl]
             rfl)
      · replace h20 := bne_f h20
        subst h20
        refine ⟨_, _, rfl, rfl, ?_⟩
        refine ⟨_, _, rfl, rfl, ?_⟩
        refine ⟨_, w64_id _ (by omega) (by omega), ?_⟩
        refine ⟨fun h27 => ?_, fun h27 => ?_⟩
        · replace h27 := of_decide_eq_true h27
          have hc : paC p n p m f g = 3 := by unfold paC; rw [if_neg (by simpa using ⟨hA, hB⟩), if_neg (by simp), if_pos h27]
          refine ⟨_, _, _, get_new, cputs_2, eqBk_rfl, ?_⟩
          first
            | exact ⟨rfl, false, _, 522, _, rfl, ⟨rfl, by omega⟩, (paV_n hc (by decide)).symm, Ext.nil⟩
            | (refine ⟨rfl, false, _, 522, _, rfl, ⟨rfl, by omega⟩, ?_, Ext.nil⟩
               show _ = paV _ _ _ _ _ _
               unfold paV paF
               rw [hc, if_pos rfl, if_pos rfl, if_pos rfl]
               rfl)
        · replace h27 := of_decide_eq_false h27
          have hc : paC p n p m f g = 0 := by unfold paC; rw [if_neg (by simpa using ⟨hA, hB⟩), if_neg (by simp), if_neg h27]
          refine ⟨_, _, rfl, rfl, ?_⟩
          refine ⟨Unit, (fun a2 a3 a4 a6 (i0 : Nat) (x0 : Unit) => [(2, a2), (3, a3), (4, a4), (6, a6), (7, .one (.i .i64 ((i0 : Nat) : Int)))]) _ _ _ _ , fun (i0 : Nat) (x0 : Unit) (G0 : List Blk) => (G0 = [⟨false, .by [p, (n : Int)] 522 (pfx n m f g i0 i0 0 0)⟩, ⟨false, .by [p, (m : Int)] 522 g⟩, ⟨false, .by [0, 0] 522 fun _ => 0⟩]), m, ⟨(), pa0, ⟨rfl, rfl, rfl, rfl, rfl, trivial⟩⟩, ?_⟩
          rintro i0 _ G0 hi0 rfl
          refine ⟨_, _, rfl, rfl, ?_⟩
          refine ⟨fun h40 => ?_, fun h40 => ?_⟩
          · replace h40 := of_decide_eq_true h40
            refine ⟨((n + i0 : Nat) : Int), addN (by omega), ?_⟩
            refine ⟨i0, _, rfl, by omega, rfl, ?_⟩
            refine ⟨_, _, rfl, cat_bq (2 + i0) (by omega) (by simp <;> omega) (by omega), ?_⟩
            refine ⟨n + i0, _, rfl, by omega, rfl, ?_⟩
            refine ⟨_, _, _, rfl, cput_u (by simp <;> omega) (by omega), eqBk_rfl, ?_⟩
            refine ⟨Unit, (fun a2 a3 a4 a6 a7 (i1 : Nat) (x1 : Unit) => [(2, a2), (3, a3), (4, a4), (6, a6), (7, a7), (8, .one (.i .i64 ((i1 : Nat) : Int)))]) _ _ _ _ _ , fun (i1 : Nat) (x1 : Unit) (G1 : List Blk) => (G1 = [⟨false, .by [p, (n : Int)] 522 (pfx n m f g (i0 + 1) i0 i1 0)⟩, ⟨false, .by [p, (m : Int)] 522 g⟩, ⟨false, .by [0, 0] 522 fun _ => 0⟩]), m, ⟨(), (pa1 (by omega)), ⟨rfl, rfl, rfl, rfl, rfl, rfl, trivial⟩⟩, ?_⟩
            rintro i1 _ G1 hi1 rfl
            refine ⟨_, _, rfl, rfl, ?_⟩
            refine ⟨fun h55 => ?_, fun h55 => ?_⟩
            · replace h55 := of_decide_eq_true h55
              refine ⟨Unit, (fun a2 a3 a4 a6 a7 a8 (i2 : Nat) (x2 : Unit) => [(2, a2), (3, a3), (4, a4), (6, a6), (7, a7), (8, a8), (9, .one (.i .i64 ((i2 : Nat) : Int)))]) _ _ _ _ _ _ , fun (i2 : Nat) (x2 : Unit) (G2 : List Blk) => (G2 = [⟨false, .by [p, (n : Int)] 522 (pfx n m f g (i0 + 1) i0 i1 i2)⟩, ⟨false, .by [p, (m : Int)] 522 g⟩, ⟨false, .by [0, 0] 522 fun _ => 0⟩]), m, ⟨(), rfl, ⟨rfl, rfl, rfl, rfl, rfl, rfl, rfl, trivial⟩⟩, ?_⟩
              rintro i2 _ G2 hi2 rfl
              refine ⟨_, _, rfl, rfl, ?_⟩
              refine ⟨fun h61 => ?_, fun h61 => ?_⟩
              · replace h61 := of_decide_eq_true h61
                refine ⟨((n + i0 : Nat) : Int), addN (by omega), ?_⟩
                refine ⟨((n + i1 : Nat) : Int), addN (by omega), ?_⟩
                refine ⟨((n + i2 : Nat) : Int), addN (by omega), ?_⟩
                refine ⟨i0, _, rfl, by omega, rfl, ?_⟩
                refine ⟨i1, _, rfl, by omega, rfl, ?_⟩
                refine ⟨i2, _, rfl, by omega, rfl, ?_⟩
                refine ⟨_, _, rfl, cat_bq (10 + i0 * 64 + i1 * 8 + i2) (by omega) (by simp <;> omega) (by omega), ?_⟩
                refine ⟨n + i0, _, rfl, by omega, rfl, ?_⟩
                refine ⟨n + i1, _, rfl, by omega, rfl, ?_⟩
                refine ⟨n + i2, _, rfl, by omega, rfl, ?_⟩
                refine ⟨_, _, _, rfl, cput_u (by simp <;> omega) (by omega), eqBk_rfl, ?_⟩
                refine ⟨((i2 + 1 : Nat) : Int), w64_id _ (by omega) (by omega), ?_⟩
                refine ⟨by omega, (), ?_, ⟨rfl, rfl, rfl, rfl, rfl, rfl, rfl, trivial⟩⟩
                dsimp only
                rw [← pfx_m (by omega) (by omega) (by omega) (by omega) (by omega), show 0 + 10 + (n + i0) * 64 + (n + i1) * 8 + (n + i2) * 1 = 10 + (n + i0) * 64 + (n + i1) * 8 + (n + i2) by omega]; rfl
              · replace h61 := of_decide_eq_false h61
                have e2 : m = i2 := by omega
                subst e2
                refine ⟨((i1 + 1 : Nat) : Int), w64_id _ (by omega) (by omega), ?_⟩
                refine ⟨by omega, (), ?_, ⟨rfl, rfl, rfl, rfl, rfl, rfl, trivial⟩⟩
                dsimp only
                rw [← pfx_j]
            · replace h55 := of_decide_eq_false h55
              have e1 : m = i1 := by omega
              subst e1
              refine ⟨((i0 + 1 : Nat) : Int), w64_id _ (by omega) (by omega), ?_⟩
              refine ⟨by omega, (), ?_, ⟨rfl, rfl, rfl, rfl, rfl, trivial⟩⟩
              dsimp only
              rw [← pfx_i]
          · replace h40 := of_decide_eq_false h40
            have e0 : m = i0 := by omega
            subst e0
            refine ⟨_, _, rfl, rfl, ?_⟩
            refine ⟨((n + m : Nat) : Int), addN (by omega), ?_⟩
            refine ⟨_, _, .by [p, ((n + m : Nat) : Int)] 522 (pfx n m f g m m 0 0), rfl, cput_i (by simp) (by omega), eqBk_rfl, ?_⟩
            refine .inl ⟨_, _, _, _, rfl, ⟨rfl, by omega⟩, ?_⟩
            refine ⟨_, _, _, rfl, cputs_2, eqBk_rfl, ?_⟩
            first
              | exact ⟨rfl, false, _, 522, _, rfl, ⟨rfl, by omega⟩, (paV_n hc (by decide)).symm, Ext.nil⟩
              | (refine ⟨rfl, false, _, 522, _, rfl, ⟨rfl, by omega⟩, ?_, Ext.nil⟩
                 show _ = paV _ _ _ _ _ _
                 unfold paV paF
                 rw [hc, if_pos rfl, if_pos rfl, if_pos rfl]
                 rfl)

theorem s_l01Cyclic_ok (B : Bs P ρ) (E : F_s_l01Cyclic P ρ) {H : List Blk} {p : Int} {n : Nat} (hn : 1 ≤ n) (hn8 : n ≤ 8) :
    CallR P ρ 196 [.i .i64 p, .i .i64 (n : Int)] H (fun u G => (∃ f : By, u = .one (.ag [p, (n : Int)] 522 f)) ∧ Ext H G) := by
  refine call_of_q B.fn B.mo E rfl (fun hAr hHp => ?_) (by simp [At.lt])
  refine ⟨_, rfl, ?_⟩
  refine ⟨H.length + 1, by simp, ?_⟩
  refine ⟨_, _, _, get_new1, cputs_2, eqBk_rfl, ?_⟩
  rw [app_set1]
  refine ⟨0, _, rfl, by omega, rfl, ?_⟩
  refine ⟨_, _, _, get_new1, cput_u (by simp) (by omega), eqBk_rfl, ?_⟩
  rw [app_set1]
  refine ⟨Unit, (fun a1 a4 a5 (i0 : Nat) (x0 : Unit) => [(1, a1), (4, a4), (5, a5), (6, .one (.i .i64 ((i0 : Nat) : Int)))]) _ _ _ , fun (i0 : Nat) (x0 : Unit) (G0 : List Blk) => (∃ f : By, G0 = H ++ [⟨false, (Zk.by 2 522).bk⟩] ++ [⟨false, .by [p, (n : Int)] 522 f⟩]), n, ⟨(), ⟨_, rfl⟩, ⟨rfl, rfl, rfl, rfl, trivial⟩⟩, ?_⟩
  rintro i0 _ G0 hi0 ⟨f, rfl⟩
  refine ⟨fun h15 => ?_, fun h15 => ?_⟩
  · replace h15 := of_decide_eq_true h15
    refine ⟨Unit, (fun a1 a4 a5 a6 (i1 : Nat) (x1 : Unit) => [(1, a1), (4, a4), (5, a5), (6, a6), (7, .one (.i .i64 ((i1 : Nat) : Int)))]) _ _ _ _ , fun (i1 : Nat) (x1 : Unit) (G1 : List Blk) => (∃ f : By, G1 = H ++ [⟨false, (Zk.by 2 522).bk⟩] ++ [⟨false, .by [p, (n : Int)] 522 f⟩]), n, ⟨(), ⟨_, rfl⟩, ⟨rfl, rfl, rfl, rfl, rfl, trivial⟩⟩, ?_⟩
    rintro i1 _ G1 hi1 ⟨f1, rfl⟩
    refine ⟨fun h20 => ?_, fun h20 => ?_⟩
    · replace h20 := of_decide_eq_true h20
      refine ⟨((i0 + i1 : Nat) : Int), addN (by omega), ?_⟩
      refine ⟨by omega, (((i0 + i1) % n : Nat) : Int), tmodN, ?_⟩
      have hmod := Nat.mod_lt (i0 + i1) (show 0 < n by omega)
      refine ⟨i0, _, rfl, by omega, rfl, ?_⟩
      refine ⟨i1, _, rfl, by omega, rfl, ?_⟩
      refine ⟨(i0 + i1) % n, _, rfl, by omega, rfl, ?_⟩
      refine ⟨_, _, _, get_new1, cput_u (by simp <;> omega) (by omega), eqBk_rfl, ?_⟩
      refine ⟨((i1 + 1 : Nat) : Int), w64_id _ (by omega) (by omega), ?_⟩
      exact ⟨by omega, (), ⟨_, app_set1⟩, ⟨rfl, rfl, rfl, rfl, rfl, trivial⟩⟩
    · replace h20 := of_decide_eq_false h20
      have e1 : n = i1 := by omega
      subst e1
      refine ⟨((i0 + 1 : Nat) : Int), w64_id _ (by omega) (by omega), ?_⟩
      exact ⟨by omega, (), ⟨_, rfl⟩, ⟨rfl, rfl, rfl, rfl, trivial⟩⟩
  · replace h15 := of_decide_eq_false h15
    have e0 : n = i0 := by omega
    subst e0
    refine .inl ⟨_, _, _, _, get_new1, ⟨rfl, by omega⟩, ?_⟩
    refine ⟨_, _, _, app_old get_new, cputs_2, eqBk_rfl, ?_⟩
    exact ⟨rfl, false, _, 522, _, set_same (app_old get_new), ⟨rfl, by omega⟩, ⟨_, rfl⟩, (Ext.app.trans Ext.app).set (Nat.le_refl _)⟩

theorem s_l01Powers_ok (B : Bs P ρ) (E : F_s_l01Powers P ρ) {H : List Blk} {p k : Int} {n to : Nat} (hp : 1 ≤ p) (hp2 : p ≤ 31) (hk : 0 ≤ k) (hk2 : k ≤ 31) (hn : 1 ≤ n) (hn8 : n ≤ 8) (hto : to < n) :
    CallR P ρ 208 [.i .i64 p, .i .i64 (n : Int), .i .i64 k, .i .i64 (to : Int)] H (fun u G => (∃ f : By, u = .one (.ag [p, (n : Int)] 522 f)) ∧ Ext H G) := by
  refine call_of_q B.fn B.mo E rfl (fun hAr hHp => ?_) (by simp [At.lt])
  refine ⟨_, rfl, ?_⟩
  refine ⟨H.length + 1, by simp, ?_⟩
  refine ⟨_, _, _, get_new1, cputs_2, eqBk_rfl, ?_⟩
  rw [app_set1]
  refine ⟨0, _, rfl, by omega, rfl, ?_⟩
  refine ⟨_, _, _, get_new1, cput_u (by simp) (by omega), eqBk_rfl, ?_⟩
  rw [app_set1]
  refine ⟨Unit, (fun a0 a1 a2 a3 a8 a9 (i0 : Nat) (x0 : Unit) => [(0, a0), (1, a1), (2, a2), (3, a3), (8, a8), (9, a9), (10, .one (.i .i64 ((i0 : Nat) : Int)))]) _ _ _ _ _ _ , fun (i0 : Nat) (x0 : Unit) (G0 : List Blk) => (∃ f : By, G0 = H ++ [⟨false, (Zk.by 2 522).bk⟩] ++ [⟨false, .by [p, (n : Int)] 522 f⟩]), n, ⟨(), ⟨_, rfl⟩, ⟨rfl, rfl, rfl, rfl, rfl, rfl, rfl, trivial⟩⟩, ?_⟩
  rintro i0 _ G0 hi0 ⟨f, rfl⟩
  refine ⟨fun h21 => ?_, fun h21 => ?_⟩
  · replace h21 := of_decide_eq_true h21
    refine ⟨Unit, (fun a0 a1 a2 a3 a8 a9 a10 (i1 : Nat) (x1 : Unit) => [(0, a0), (1, a1), (2, a2), (3, a3), (8, a8), (9, a9), (10, a10), (11, .one (.i .i64 ((i1 : Nat) : Int)))]) _ _ _ _ _ _ _ , fun (i1 : Nat) (x1 : Unit) (G1 : List Blk) => (∃ f : By, G1 = H ++ [⟨false, (Zk.by 2 522).bk⟩] ++ [⟨false, .by [p, (n : Int)] 522 f⟩]), n, ⟨(), ⟨_, rfl⟩, ⟨rfl, rfl, rfl, rfl, rfl, rfl, rfl, rfl, trivial⟩⟩, ?_⟩
    rintro i1 _ G1 hi1 ⟨f1, rfl⟩
    refine ⟨fun h26 => ?_, fun h26 => ?_⟩
    · replace h26 := of_decide_eq_true h26
      refine ⟨((i0 + i1 : Nat) : Int), addN (by omega), ?_⟩
      refine ⟨Nat × Int, (fun a0 a1 a2 a3 a8 a9 a10 a11 (i2 : Nat) (x2 : Nat × Int) => match x2 with | ⟨t, fa⟩ => [(0, a0), (1, a1), (2, a2), (3, a3), (8, a8), (9, a9), (10, a10), (11, a11), (12, .one (.i .i64 ((t : Nat) : Int))), (13, .one (.i .i64 fa))]) _ _ _ _ _ _ _ _ , fun (i2 : Nat) (x2 : Nat × Int) (G2 : List Blk) => match x2 with | ⟨t, fa⟩ => ((t + i2 + 2 ≤ 2 * n ∧ 0 ≤ fa ∧ fa ≤ 31) ∧ G2 = H ++ [⟨false, (Zk.by 2 522).bk⟩] ++ [⟨false, .by [p, (n : Int)] 522 f1⟩]), 2 * n, ⟨(i0 + i1, 1), ⟨⟨by omega, by omega, by omega⟩, rfl⟩, ⟨rfl, rfl, rfl, rfl, rfl, rfl, rfl, rfl, rfl, rfl, trivial⟩⟩, ?_⟩
      rintro i2 ⟨t, fa⟩ G2 hi2 ⟨⟨ht, hfa, hfa2⟩, rfl⟩
      refine ⟨fun h34 => ?_, fun h34 => ?_⟩
      · replace h34 := of_decide_eq_true h34
        refine ⟨((t - n : Nat) : Int), by rw [show ((t : Int) - (n : Int)) = ((t - n : Nat) : Int) by omega]; exact w64_id _ (by omega) (by omega), ?_⟩
        refine ⟨((t - n + to : Nat) : Int), addN (by omega), ?_⟩
        have hmb := mul_bd2 (a := fa) (b := k) (c := 31) (d := 31) hfa hfa2 hk hk2
        refine ⟨_, w64_id _ (by omega) (by omega), ?_⟩
        refine ⟨by omega, _, rfl, ?_⟩
        have htm := tmod_bd (x := fa * k) (n := p) hmb.1 (by omega)
        exact ⟨by omega, (t - n + to, (fa * k).tmod p), ⟨⟨by omega, htm.1, by omega⟩, rfl⟩, ⟨rfl, rfl, rfl, rfl, rfl, rfl, rfl, rfl, rfl, rfl, trivial⟩⟩
      · replace h34 := of_decide_eq_false h34
        refine ⟨i0, _, rfl, by omega, rfl, ?_⟩
        refine ⟨i1, _, rfl, by omega, rfl, ?_⟩
        refine ⟨t, _, rfl, by omega, rfl, ?_⟩
        refine ⟨_, _, _, get_new1, cput_u (by simp <;> omega) (by omega), eqBk_rfl, ?_⟩
        refine ⟨((i1 + 1 : Nat) : Int), w64_id _ (by omega) (by omega), ?_⟩
        exact ⟨by omega, (), ⟨_, app_set1⟩, ⟨rfl, rfl, rfl, rfl, rfl, rfl, rfl, rfl, trivial⟩⟩
    · replace h26 := of_decide_eq_false h26
      have e1 : n = i1 := by omega
      subst e1
      refine ⟨((i0 + 1 : Nat) : Int), w64_id _ (by omega) (by omega), ?_⟩
      exact ⟨by omega, (), ⟨_, rfl⟩, ⟨rfl, rfl, rfl, rfl, rfl, rfl, rfl, trivial⟩⟩
  · replace h21 := of_decide_eq_false h21
    have e0 : n = i0 := by omega
    subst e0
    refine .inl ⟨_, _, _, _, get_new1, ⟨rfl, by omega⟩, ?_⟩
    refine ⟨_, _, _, app_old get_new, cputs_2, eqBk_rfl, ?_⟩
    exact ⟨rfl, false, _, 522, _, set_same (app_old get_new), ⟨rfl, by omega⟩, ⟨_, rfl⟩, (Ext.app.trans Ext.app).set (Nat.le_refl _)⟩

theorem s_l01Matrices_ok (B : Bs P ρ) (E : F_s_l01Matrices P ρ) {H : List Blk} {p : Int} :
    CallR P ρ 197 [.i .i64 p] H (fun u G => (∃ f : By, u = .one (.ag [p, 4] 522 f)) ∧ Ext H G) := by
  refine call_of_q B.fn B.mo E rfl (fun hAr hHp => ?_) (by simp [At.lt])
  refine ⟨_, rfl, ?_⟩
  refine ⟨H.length + 1, by simp, ?_⟩
  refine ⟨_, _, _, get_new1, cputs_2, eqBk_rfl, ?_⟩
  rw [app_set1]
  refine ⟨0, _, rfl, by omega, rfl, ?_⟩
  refine ⟨_, _, _, get_new1, cput_u (by simp) (by omega), eqBk_rfl, ?_⟩
  rw [app_set1]
  refine ⟨3, _, rfl, by omega, rfl, ?_⟩
  refine ⟨_, _, _, get_new1, cput_u (by simp) (by omega), eqBk_rfl, ?_⟩
  rw [app_set1]
  refine ⟨Unit, (fun a2 a3 (i0 : Nat) (x0 : Unit) => [(2, a2), (3, a3), (4, .one (.i .i64 ((i0 : Nat) : Int)))]) _ _ , fun (i0 : Nat) (x0 : Unit) (G0 : List Blk) => (∃ f : By, G0 = H ++ [⟨false, (Zk.by 2 522).bk⟩] ++ [⟨false, .by [p, 4] 522 f⟩]), 2, ⟨(), ⟨_, rfl⟩, ⟨rfl, rfl, rfl, trivial⟩⟩, ?_⟩
  rintro i0 _ G0 hi0 ⟨f, rfl⟩
  refine ⟨fun h14 => ?_, fun h14 => ?_⟩
  · replace h14 := of_decide_eq_true h14
    refine ⟨Unit, (fun a2 a3 a4 (i1 : Nat) (x1 : Unit) => [(2, a2), (3, a3), (4, a4), (5, .one (.i .i64 ((i1 : Nat) : Int)))]) _ _ _ , fun (i1 : Nat) (x1 : Unit) (G1 : List Blk) => (∃ f : By, G1 = H ++ [⟨false, (Zk.by 2 522).bk⟩] ++ [⟨false, .by [p, 4] 522 f⟩]), 2, ⟨(), ⟨_, rfl⟩, ⟨rfl, rfl, rfl, rfl, trivial⟩⟩, ?_⟩
    rintro i1 _ G1 hi1 ⟨f1, rfl⟩
    refine ⟨fun h18 => ?_, fun h18 => ?_⟩
    · replace h18 := of_decide_eq_true h18
      refine ⟨Unit, (fun a2 a3 a4 a5 (i2 : Nat) (x2 : Unit) => [(2, a2), (3, a3), (4, a4), (5, a5), (6, .one (.i .i64 ((i2 : Nat) : Int)))]) _ _ _ _ , fun (i2 : Nat) (x2 : Unit) (G2 : List Blk) => (∃ f : By, G2 = H ++ [⟨false, (Zk.by 2 522).bk⟩] ++ [⟨false, .by [p, 4] 522 f⟩]), 2, ⟨(), ⟨_, rfl⟩, ⟨rfl, rfl, rfl, rfl, rfl, trivial⟩⟩, ?_⟩
      rintro i2 _ G2 hi2 ⟨f2, rfl⟩
      refine ⟨fun h22 => ?_, fun h22 => ?_⟩
      · replace h22 := of_decide_eq_true h22
        refine ⟨((2 * i0 : Nat) : Int), (w64_id _ (by omega) (by omega)).trans (by omega), ?_⟩
        refine ⟨((2 * i0 + i1 : Nat) : Int), addN (by omega), ?_⟩
        refine ⟨((2 * i1 : Nat) : Int), (w64_id _ (by omega) (by omega)).trans (by omega), ?_⟩
        refine ⟨((2 * i1 + i2 : Nat) : Int), addN (by omega), ?_⟩
        refine ⟨((2 * i0 : Nat) : Int), (w64_id _ (by omega) (by omega)).trans (by omega), ?_⟩
        refine ⟨((2 * i0 + i2 : Nat) : Int), addN (by omega), ?_⟩
        refine ⟨2 * i0 + i1, _, rfl, by omega, rfl, ?_⟩
        refine ⟨2 * i1 + i2, _, rfl, by omega, rfl, ?_⟩
        refine ⟨2 * i0 + i2, _, rfl, by omega, rfl, ?_⟩
        refine ⟨_, _, _, get_new1, cput_u (by simp <;> omega) (by omega), eqBk_rfl, ?_⟩
        refine ⟨((i2 + 1 : Nat) : Int), w64_id _ (by omega) (by omega), ?_⟩
        exact ⟨by omega, (), ⟨_, app_set1⟩, ⟨rfl, rfl, rfl, rfl, rfl, trivial⟩⟩
      · replace h22 := of_decide_eq_false h22
        have e2 : 2 = i2 := by omega
        subst e2
        refine ⟨((i1 + 1 : Nat) : Int), w64_id _ (by omega) (by omega), ?_⟩
        exact ⟨by omega, (), ⟨_, rfl⟩, ⟨rfl, rfl, rfl, rfl, trivial⟩⟩
    · replace h18 := of_decide_eq_false h18
      have e1 : 2 = i1 := by omega
      subst e1
      refine ⟨((i0 + 1 : Nat) : Int), w64_id _ (by omega) (by omega), ?_⟩
      exact ⟨by omega, (), ⟨_, rfl⟩, ⟨rfl, rfl, rfl, trivial⟩⟩
  · replace h14 := of_decide_eq_false h14
    have e0 : 2 = i0 := by omega
    subst e0
    refine .inl ⟨_, _, _, _, get_new1, ⟨rfl, by omega⟩, ?_⟩
    refine ⟨_, _, _, app_old get_new, cputs_2, eqBk_rfl, ?_⟩
    exact ⟨rfl, false, _, 522, _, set_same (app_old get_new), ⟨rfl, by omega⟩, ⟨_, rfl⟩, (Ext.app.trans Ext.app).set (Nat.le_refl _)⟩


end Hf
namespace Hf
open Go Classical
variable {P : Program} {ρ : Nat → FuncId}
/-- what a draw leaves: a value of an algebra's kind, the source further on -/
def DrA (H : List Blk) (s : Nat) (u : Sv) (G : List Blk) : Prop := ∃ (p q : Int) (f : By), u = .one (.ag [p, q] 522 f) ∧ Fr [s] H G ∧ Src G s
set_option maxHeartbeats 2000000 in
theorem s_l01Draw_ok (B : Bs P ρ) (E : F_s_l01Draw P ρ) {H : List Blk} {s : Nat} (hS : Src H s) :
    CallR P ρ 203 [.pt s 0] H (DrA H s) := by
  have hsl := hS.lt
  refine call_of_q B.fn B.mo E.1 rfl (fun hAr hHp => ?_) (by simp [At.lt, hS.lt])
  refine ⟨_, rfl, ?_⟩
  refine ⟨_, s_l01DrawPrime_ok B E.2.1 (hS.ext Ext.app), ?_⟩
  rintro _ G10 ⟨p, hp, rfl, hf10, hS10⟩
  have hF10 : Fr [s] H G10 := (Ext.app.fr).trans hf10
  have hm10 := hf10.get get_new (by omega)
  refine ⟨_, s_l01Next_ok B E.2.2.1 hS10, ?_⟩
  rintro _ G12 ⟨z12, rfl, hz12, hf12, hS12⟩
  have hF12 := hF10.trans hf12
  have hm12 := hf12.get hm10 (by omega)
  refine ⟨fun h13 => ?_, fun h13 => ?_⟩
  · replace h13 := eq_of_beq h13
    refine ⟨_, s_l01Next_ok B E.2.2.1 hS12, ?_⟩
    rintro _ G17 ⟨z17, rfl, hz17, hf17, hS17⟩
    obtain ⟨x17, rfl⟩ : ∃ x : Nat, z17 = (x : Int) := ⟨z17.toNat, by have := hz17.1; omega⟩
    have hb17 := hz17.2.2 (by omega)
    refine ⟨((1 + x17 : Nat) : Int), (w64_id _ (by omega) (by omega)).trans (by omega), ?_⟩
    refine ⟨_, s_l01Cyclic_ok B E.2.2.2.1 (p := p) (n := 1 + x17) (by omega) (by omega), ?_⟩
    rintro _ G19 ⟨⟨f19, rfl⟩, hE19⟩
    have hmE := hE19 _ _ (hf17.get hm12 (by omega))
    have hFE := (hF12.trans hf17).trans hE19.fr
    have hSE := hS17.ext hE19
    refine ⟨_, _, _, hmE, cputs_2, eqBk_rfl, ?_⟩
    first
      | exact ⟨rfl, false, _, 522, _, set_same hmE, ⟨rfl, by omega⟩, ⟨_, _, _, rfl, hFE.set (Nat.le_refl _), hSE.set hmE rfl (by omega)⟩⟩
      | exact ⟨rfl, false, _, 522, _, set_same (hA _).1, ⟨rfl, by omega⟩, ⟨_, _, _, rfl, (hA _).2.1.set (Nat.le_refl _), (hA _).2.2.set (hA _).1 rfl (by omega)⟩⟩
  · replace h13 := ne_of_beq_false h13
    refine ⟨fun h20 => ?_, fun h20 => ?_⟩
    · replace h20 := eq_of_beq h20
      refine ⟨_, s_l01Next_ok B E.2.2.1 hS12, ?_⟩
      rintro _ G23 ⟨z23, rfl, hz23, hf23, hS23⟩
      obtain ⟨x23, rfl⟩ : ∃ x : Nat, z23 = (x : Int) := ⟨z23.toNat, by have := hz23.1; omega⟩
      have hb23 := hz23.2.2 (by omega)
      refine ⟨((1 + x23 : Nat) : Int), (w64_id _ (by omega) (by omega)).trans (by omega), ?_⟩
      refine ⟨_, s_l01Next_ok B E.2.2.1 hS23, ?_⟩
      rintro _ G29 ⟨z29, rfl, hz29, hf29, hS29⟩
      refine ⟨_, s_l01Next_ok B E.2.2.1 hS29, ?_⟩
      rintro _ G32 ⟨z32, rfl, hz32, hf32, hS32⟩
      obtain ⟨x32, rfl⟩ : ∃ x : Nat, z32 = (x : Int) := ⟨z32.toNat, by have := hz32.1; omega⟩
      have hb32 := hz32.2.2 (by omega)
      have hb29 := hz29.2.2 (by omega)
      refine ⟨_, s_l01Powers_ok B E.2.2.2.2.1 (p := p) (k := z29) (n := 1 + x23) (to := x32) (by omega) (by omega) hz29.1 (by omega) (by omega) (by omega) (by omega), ?_⟩
      rintro _ G33 ⟨⟨f33, rfl⟩, hE33⟩
      have hmE := hE33 _ _ (hf32.get (hf29.get (hf23.get hm12 (by omega)) (by omega)) (by omega))
      have hFE := (((hF12.trans hf23).trans hf29).trans hf32).trans hE33.fr
      have hSE := hS32.ext hE33
      refine ⟨_, _, _, hmE, cputs_2, eqBk_rfl, ?_⟩
      first
        | exact ⟨rfl, false, _, 522, _, set_same hmE, ⟨rfl, by omega⟩, ⟨_, _, _, rfl, hFE.set (Nat.le_refl _), hSE.set hmE rfl (by omega)⟩⟩
        | exact ⟨rfl, false, _, 522, _, set_same (hA _).1, ⟨rfl, by omega⟩, ⟨_, _, _, rfl, (hA _).2.1.set (Nat.le_refl _), (hA _).2.2.set (hA _).1 rfl (by omega)⟩⟩
    · replace h20 := ne_of_beq_false h20
      refine ⟨fun h34 => ?_, fun h34 => ?_⟩
      · replace h34 := eq_of_beq h34
        refine ⟨_, s_l01Matrices_ok B E.2.2.2.2.2.1 (p := p), ?_⟩
        rintro _ G37 ⟨⟨f37, rfl⟩, hE37⟩
        have hmE := hE37 _ _ hm12
        have hFE := hF12.trans hE37.fr
        have hSE := hS12.ext hE37
        refine ⟨_, _, _, hmE, cputs_2, eqBk_rfl, ?_⟩
        first
          | exact ⟨rfl, false, _, 522, _, set_same hmE, ⟨rfl, by omega⟩, ⟨_, _, _, rfl, hFE.set (Nat.le_refl _), hSE.set hmE rfl (by omega)⟩⟩
          | exact ⟨rfl, false, _, 522, _, set_same (hA _).1, ⟨rfl, by omega⟩, ⟨_, _, _, rfl, (hA _).2.1.set (Nat.le_refl _), (hA _).2.2.set (hA _).1 rfl (by omega)⟩⟩
      · replace h34 := ne_of_beq_false h34
        refine ⟨fun h38 => ?_, fun h38 => ?_⟩
        · replace h38 := eq_of_beq h38
          refine ⟨_, s_l01Next_ok B E.2.2.1 hS12, ?_⟩
          rintro _ G43 ⟨z43, rfl, hz43, hf43, hS43⟩
          obtain ⟨x43, rfl⟩ : ∃ x : Nat, z43 = (x : Int) := ⟨z43.toNat, by have := hz43.1; omega⟩
          have hb43 := hz43.2.2 (by omega)
          refine ⟨((1 + x43 : Nat) : Int), (w64_id _ (by omega) (by omega)).trans (by omega), ?_⟩
          refine ⟨_, s_l01Cyclic_ok B E.2.2.2.1 (p := p) (n := 1 + x43) (by omega) (by omega), ?_⟩
          rintro _ G45 ⟨⟨f45, rfl⟩, hE45⟩
          refine ⟨_, s_l01Matrices_ok B E.2.2.2.2.2.1 (p := p), ?_⟩
          rintro _ G47 ⟨⟨f47, rfl⟩, hE47⟩
          refine ⟨_, s_ProductAlgebra_ok B E.2.2.2.2.2.2 (p := p) (n := ((1 + x43 : Nat) : Int)) (q := p) (m := 4) (f := f45) (g := f47), rfl, ?_⟩
          refine ⟨_, rfl, ?_⟩
          have hA : ∀ X : List Blk, (G47 ++ X)[H.length]? = some ⟨false, (Zk.by 2 522).bk⟩ ∧ Fr [s] H (G47 ++ X) ∧ Src (G47 ++ X) s := fun X =>
            ⟨app_old (hE47 _ _ (hE45 _ _ (hf43.get hm12 (by omega)))), (((hF12.trans hf43).trans hE45.fr).trans hE47.fr).trans Ext.app.fr, ((hS43.ext hE45).ext hE47).ext Ext.app⟩
          refine ⟨_, _, _, get_new, cputs_2, eqBk_rfl, ?_⟩
          rw [app_set0]
          refine ⟨fun h52 => ?_, fun h52 => ?_⟩
          · replace h52 := eq_of_beq h52
            refine .inl ⟨_, _, _, _, get_new, ⟨rfl, by omega⟩, ?_⟩
            refine ⟨_, _, _, (hA _).1, cputs_2, eqBk_rfl, ?_⟩
            first
              | exact ⟨rfl, false, _, 522, _, set_same hmE, ⟨rfl, by omega⟩, ⟨_, _, _, rfl, hFE.set (Nat.le_refl _), hSE.set hmE rfl (by omega)⟩⟩
              | exact ⟨rfl, false, _, 522, _, set_same (hA _).1, ⟨rfl, by omega⟩, ⟨_, _, _, rfl, (hA _).2.1.set (Nat.le_refl _), (hA _).2.2.set (hA _).1 rfl (by omega)⟩⟩
          · replace h52 := ne_of_beq_false h52
            refine ⟨_, s_l01Next_ok B E.2.2.1 (hA _).2.2, ?_⟩
            rintro _ G78 ⟨z78, rfl, hz78, hf78, hS78⟩
            have hm78 := hf78.get (hA _).1 (by omega)
            have hF78 := (hA _).2.1.trans hf78
            obtain ⟨x78, rfl⟩ : ∃ x : Nat, z78 = (x : Int) := ⟨z78.toNat, by have := hz78.1; omega⟩
            have hb78 := hz78.2.2 (by omega)
            refine ⟨((1 + x78 : Nat) : Int), (w64_id _ (by omega) (by omega)).trans (by omega), ?_⟩
            refine ⟨_, s_l01Powers_ok B E.2.2.2.2.1 (p := p) (k := 0) (n := 1 + x78) (to := 0) (by omega) (by omega) (by omega) (by omega) (by omega) (by omega) (by omega), ?_⟩
            rintro _ G80 ⟨⟨f80, rfl⟩, hE80⟩
            have hmE := hE80 _ _ hm78
            have hFE := hF78.trans hE80.fr
            have hSE := hS78.ext hE80
            refine ⟨_, _, _, hmE, cputs_2, eqBk_rfl, ?_⟩
            first
              | exact ⟨rfl, false, _, 522, _, set_same hmE, ⟨rfl, by omega⟩, ⟨_, _, _, rfl, hFE.set (Nat.le_refl _), hSE.set hmE rfl (by omega)⟩⟩
              | exact ⟨rfl, false, _, 522, _, set_same (hA _).1, ⟨rfl, by omega⟩, ⟨_, _, _, rfl, (hA _).2.1.set (Nat.le_refl _), (hA _).2.2.set (hA _).1 rfl (by omega)⟩⟩
        · replace h38 := ne_of_beq_false h38
          refine ⟨fun h54 => ?_, fun h54 => ?_⟩
          · replace h54 := eq_of_beq h54
            refine ⟨_, s_l01Next_ok B E.2.2.1 hS12, ?_⟩
            rintro _ G59 ⟨z59, rfl, hz59, hf59, hS59⟩
            obtain ⟨x59, rfl⟩ : ∃ x : Nat, z59 = (x : Int) := ⟨z59.toNat, by have := hz59.1; omega⟩
            have hb59 := hz59.2.2 (by omega)
            refine ⟨((1 + x59 : Nat) : Int), (w64_id _ (by omega) (by omega)).trans (by omega), ?_⟩
            refine ⟨_, s_l01Powers_ok B E.2.2.2.2.1 (p := p) (k := 0) (n := 1 + x59) (to := 0) (by omega) (by omega) (by omega) (by omega) (by omega) (by omega) (by omega), ?_⟩
            rintro _ G61 ⟨⟨f61, rfl⟩, hE61⟩
            refine ⟨_, s_l01Next_ok B E.2.2.1 (hS59.ext hE61), ?_⟩
            rintro _ G64 ⟨z64, rfl, hz64, hf64, hS64⟩
            obtain ⟨x64, rfl⟩ : ∃ x : Nat, z64 = (x : Int) := ⟨z64.toNat, by have := hz64.1; omega⟩
            have hb64 := hz64.2.2 (by omega)
            refine ⟨((1 + x64 : Nat) : Int), (w64_id _ (by omega) (by omega)).trans (by omega), ?_⟩
            refine ⟨_, s_l01Next_ok B E.2.2.1 hS64, ?_⟩
            rintro _ G68 ⟨z68, rfl, hz68, hf68, hS68⟩
            have hb68 := hz68.2.2 (by omega)
            refine ⟨_, s_l01Powers_ok B E.2.2.2.2.1 (p := p) (k := z68) (n := 1 + x64) (to := 0) (by omega) (by omega) hz68.1 (by omega) (by omega) (by omega) (by omega), ?_⟩
            rintro _ G69 ⟨⟨f69, rfl⟩, hE69⟩
            refine ⟨_, s_ProductAlgebra_ok B E.2.2.2.2.2.2 (p := p) (n := ((1 + x59 : Nat) : Int)) (q := p) (m := ((1 + x64 : Nat) : Int)) (f := f61) (g := f69), rfl, ?_⟩
            refine ⟨_, rfl, ?_⟩
            have hA : ∀ X : List Blk, (G69 ++ X)[H.length]? = some ⟨false, (Zk.by 2 522).bk⟩ ∧ Fr [s] H (G69 ++ X) ∧ Src (G69 ++ X) s := fun X =>
              ⟨app_old (hE69 _ _ (hf68.get (hf64.get (hE61 _ _ (hf59.get hm12 (by omega))) (by omega)) (by omega))), (((((hF12.trans hf59).trans hE61.fr).trans hf64).trans hf68).trans hE69.fr).trans Ext.app.fr, (hS68.ext hE69).ext Ext.app⟩
            refine ⟨_, _, _, get_new, cputs_2, eqBk_rfl, ?_⟩
            rw [app_set0]
            refine ⟨fun h74 => ?_, fun h74 => ?_⟩
            · replace h74 := eq_of_beq h74
              refine .inl ⟨_, _, _, _, get_new, ⟨rfl, by omega⟩, ?_⟩
              refine ⟨_, _, _, (hA _).1, cputs_2, eqBk_rfl, ?_⟩
              first
                | exact ⟨rfl, false, _, 522, _, set_same hmE, ⟨rfl, by omega⟩, ⟨_, _, _, rfl, hFE.set (Nat.le_refl _), hSE.set hmE rfl (by omega)⟩⟩
                | exact ⟨rfl, false, _, 522, _, set_same (hA _).1, ⟨rfl, by omega⟩, ⟨_, _, _, rfl, (hA _).2.1.set (Nat.le_refl _), (hA _).2.2.set (hA _).1 rfl (by omega)⟩⟩
            · replace h74 := ne_of_beq_false h74
              refine ⟨_, s_l01Next_ok B E.2.2.1 (hA _).2.2, ?_⟩
              rintro _ G78 ⟨z78, rfl, hz78, hf78, hS78⟩
              have hm78 := hf78.get (hA _).1 (by omega)
              have hF78 := (hA _).2.1.trans hf78
              obtain ⟨x78, rfl⟩ : ∃ x : Nat, z78 = (x : Int) := ⟨z78.toNat, by have := hz78.1; omega⟩
              have hb78 := hz78.2.2 (by omega)
              refine ⟨((1 + x78 : Nat) : Int), (w64_id _ (by omega) (by omega)).trans (by omega), ?_⟩
              refine ⟨_, s_l01Powers_ok B E.2.2.2.2.1 (p := p) (k := 0) (n := 1 + x78) (to := 0) (by omega) (by omega) (by omega) (by omega) (by omega) (by omega) (by omega), ?_⟩
              rintro _ G80 ⟨⟨f80, rfl⟩, hE80⟩
              have hmE := hE80 _ _ hm78
              have hFE := hF78.trans hE80.fr
              have hSE := hS78.ext hE80
              refine ⟨_, _, _, hmE, cputs_2, eqBk_rfl, ?_⟩
              first
                | exact ⟨rfl, false, _, 522, _, set_same hmE, ⟨rfl, by omega⟩, ⟨_, _, _, rfl, hFE.set (Nat.le_refl _), hSE.set hmE rfl (by omega)⟩⟩
                | exact ⟨rfl, false, _, 522, _, set_same (hA _).1, ⟨rfl, by omega⟩, ⟨_, _, _, rfl, (hA _).2.1.set (Nat.le_refl _), (hA _).2.2.set (hA _).1 rfl (by omega)⟩⟩
          · replace h54 := ne_of_beq_false h54
            refine ⟨_, s_l01Next_ok B E.2.2.1 hS12, ?_⟩
            rintro _ G78 ⟨z78, rfl, hz78, hf78, hS78⟩
            have hm78 := hf78.get hm12 (by omega)
            have hF78 := hF12.trans hf78
            obtain ⟨x78, rfl⟩ : ∃ x : Nat, z78 = (x : Int) := ⟨z78.toNat, by have := hz78.1; omega⟩
            have hb78 := hz78.2.2 (by omega)
            refine ⟨((1 + x78 : Nat) : Int), (w64_id _ (by omega) (by omega)).trans (by omega), ?_⟩
            refine ⟨_, s_l01Powers_ok B E.2.2.2.2.1 (p := p) (k := 0) (n := 1 + x78) (to := 0) (by omega) (by omega) (by omega) (by omega) (by omega) (by omega) (by omega), ?_⟩
            rintro _ G80 ⟨⟨f80, rfl⟩, hE80⟩
            have hmE := hE80 _ _ hm78
            have hFE := hF78.trans hE80.fr
            have hSE := hS78.ext hE80
            refine ⟨_, _, _, hmE, cputs_2, eqBk_rfl, ?_⟩
            first
              | exact ⟨rfl, false, _, 522, _, set_same hmE, ⟨rfl, by omega⟩, ⟨_, _, _, rfl, hFE.set (Nat.le_refl _), hSE.set hmE rfl (by omega)⟩⟩
              | exact ⟨rfl, false, _, 522, _, set_same (hA _).1, ⟨rfl, by omega⟩, ⟨_, _, _, rfl, (hA _).2.1.set (Nat.le_refl _), (hA _).2.2.set (hA _).1 rfl (by omega)⟩⟩

set_option maxHeartbeats 2000000 in
theorem s_l01Bad_ok (B : Bs P ρ) (E : F_s_l01Bad P ρ) {H : List Blk} {s : Nat} {p q : Int} {f : By} (hS : Src H s) :
    CallR P ρ 204 [.pt s 0, .ag [p, q] 522 f] H (DrA H s) := by
  have hsl := hS.lt
  refine call_of_q B.fn B.mo E.1 rfl (fun hAr hHp => ?_) (by simp [At.lt, hS.lt])
  refine ⟨_, rfl, ?_⟩
  refine ⟨H.length + 1, by simp, ?_⟩
  refine ⟨_, s_l01Next_ok B E.2.1 ((hS.ext Ext.app).ext Ext.app), ?_⟩
  rintro _ G6 ⟨z6, rfl, hz6, hf6, hS6⟩
  have hF6 : Fr [s] H G6 := (Ext.app.trans Ext.app).fr.trans hf6
  have hk6 := hf6.get (k := H.length) (app_old get_new) (by omega)
  have hm6 := hf6.get (k := H.length + 1) get_new1 (by omega)
  refine ⟨fun h7 => ?_, fun h7 => ?_⟩
  · replace h7 := eq_of_beq h7
    refine ⟨_, rfl, ?_⟩
    refine ⟨_, s_l01Pick_ok B E.2.2 (L := [0, 1, 4, 9, 37, -5]) (hS6.ext Ext.app) ⟨false, _, get_new, by simp, rfl⟩ (by simp [At.lt]) (by have := hS6.lt; simp [spB]; omega) (by simp), ?_⟩
    rintro _ G11 ⟨z11, hz11, rfl, hf11, hS11⟩
    have hk11 := hf11.get (k := H.length) (app_old hk6) (by omega)
    have hm11 := hf11.get (k := H.length + 1) (app_old hm6) (by omega)
    refine ⟨_, _, .by [z11, q] 522 f, hk11, cput_i (by simp) (by omega), eqBk_rfl, ?_⟩
    have hkE := set_same (B := ⟨false, .by [z11, q] 522 f⟩) hk11
    have hmE := set_other (B := ⟨false, .by [z11, q] 522 f⟩) hm11 (show H.length ≠ H.length + 1 by omega)
    have hFE := ((hF6.trans Ext.app.fr).trans hf11).set (B := ⟨false, .by [z11, q] 522 f⟩) (Nat.le_refl _)
    have hSE := hS11.set (B := ⟨false, .by [z11, q] 522 f⟩) hk11 rfl (by omega)
    refine .inl ⟨_, _, _, _, hkE, ⟨rfl, by omega⟩, ?_⟩
    refine ⟨_, _, _, hmE, cputs_2, eqBk_rfl, ?_⟩
    exact ⟨rfl, false, _, 522, _, set_same hmE, ⟨rfl, by omega⟩, ⟨_, _, _, rfl, hFE.set (Nat.le_succ _), hSE.set hmE rfl (by omega)⟩⟩
  · replace h7 := ne_of_beq_false h7
    refine ⟨fun h13 => ?_, fun h13 => ?_⟩
    · replace h13 := eq_of_beq h13
      refine ⟨_, _, hk6, rfl, ?_⟩
      refine ⟨_, rfl, ?_⟩
      refine ⟨_, rfl, ?_⟩
      refine ⟨_, s_l01Pick_ok B E.2.2 (L := [0, 9, -1, w64 (q - 1)]) (hS6.ext Ext.app) ⟨false, _, get_new, by simp, rfl⟩ (by simp [At.lt]) (by have := hS6.lt; simp [spB]; omega) (by simp), ?_⟩
      rintro _ G20 ⟨z20, hz20, rfl, hf20, hS20⟩
      have hk20 := hf20.get (k := H.length) (app_old hk6) (by omega)
      have hm20 := hf20.get (k := H.length + 1) (app_old hm6) (by omega)
      refine ⟨_, _, .by [p, z20] 522 f, hk20, cput_i (by simp) (by omega), eqBk_rfl, ?_⟩
      have hkE := set_same (B := ⟨false, .by [p, z20] 522 f⟩) hk20
      have hmE := set_other (B := ⟨false, .by [p, z20] 522 f⟩) hm20 (show H.length ≠ H.length + 1 by omega)
      have hFE := ((hF6.trans Ext.app.fr).trans hf20).set (B := ⟨false, .by [p, z20] 522 f⟩) (Nat.le_refl _)
      have hSE := hS20.set (B := ⟨false, .by [p, z20] 522 f⟩) hk20 rfl (by omega)
      refine .inl ⟨_, _, _, _, hkE, ⟨rfl, by omega⟩, ?_⟩
      refine ⟨_, _, _, hmE, cputs_2, eqBk_rfl, ?_⟩
      exact ⟨rfl, false, _, 522, _, set_same hmE, ⟨rfl, by omega⟩, ⟨_, _, _, rfl, hFE.set (Nat.le_succ _), hSE.set hmE rfl (by omega)⟩⟩
    · replace h13 := ne_of_beq_false h13
      refine ⟨fun h22 => ?_, fun h22 => ?_⟩
      · replace h22 := eq_of_beq h22
        refine ⟨_, s_l01Next_ok B E.2.1 hS6, ?_⟩
        rintro _ G25 ⟨z25, rfl, hz25, hf25, hS25⟩
        obtain ⟨x25, rfl⟩ : ∃ x : Nat, z25 = (x : Int) := ⟨z25.toNat, by have := hz25.1; omega⟩
        have hb25 := hz25.2.2 (by omega)
        refine ⟨x25, _, rfl, by omega, rfl, ?_⟩
        refine ⟨_, s_l01Next_ok B E.2.1 hS25, ?_⟩
        rintro _ G27 ⟨z27, rfl, hz27, hf27, hS27⟩
        obtain ⟨x27, rfl⟩ : ∃ x : Nat, z27 = (x : Int) := ⟨z27.toNat, by have := hz27.1; omega⟩
        have hb27 := hz27.2.2 (by omega)
        refine ⟨x27, _, rfl, by omega, rfl, ?_⟩
        refine ⟨_, s_l01Next_ok B E.2.1 hS27, ?_⟩
        rintro _ G29 ⟨z29, rfl, hz29, hf29, hS29⟩
        obtain ⟨x29, rfl⟩ : ∃ x : Nat, z29 = (x : Int) := ⟨z29.toNat, by have := hz29.1; omega⟩
        have hb29 := hz29.2.2 (by omega)
        refine ⟨_, s_l01Next_ok B E.2.1 hS29, ?_⟩
        rintro _ G31 ⟨z31, rfl, hz31, hf31, hS31⟩
        refine ⟨x29, _, rfl, by omega, rfl, ?_⟩
        have hF31 := (((hF6.trans hf25).trans hf27).trans hf29).trans hf31
        have hk31 := hf31.get (hf29.get (hf27.get (hf25.get hk6 (by omega)) (by omega)) (by omega)) (by omega)
        have hm31 := hf31.get (hf29.get (hf27.get (hf25.get hm6 (by omega)) (by omega)) (by omega)) (by omega)
        refine ⟨_, _, .by [p, q] 522 (upd f (0 + 10 + x25 * 64 + x27 * 8 + x29 * 1) (byt z31)), hk31, cput_u (by simp <;> omega) (by omega), eqBk_rfl, ?_⟩
        have hkE := set_same (B := ⟨false, .by [p, q] 522 (upd f (0 + 10 + x25 * 64 + x27 * 8 + x29 * 1) (byt z31))⟩) hk31
        have hmE := set_other (B := ⟨false, .by [p, q] 522 (upd f (0 + 10 + x25 * 64 + x27 * 8 + x29 * 1) (byt z31))⟩) hm31 (show H.length ≠ H.length + 1 by omega)
        have hFE := hF31.set (B := ⟨false, .by [p, q] 522 (upd f (0 + 10 + x25 * 64 + x27 * 8 + x29 * 1) (byt z31))⟩) (Nat.le_refl _)
        have hSE := hS31.set (B := ⟨false, .by [p, q] 522 (upd f (0 + 10 + x25 * 64 + x27 * 8 + x29 * 1) (byt z31))⟩) hk31 rfl (by omega)
        refine .inl ⟨_, _, _, _, hkE, ⟨rfl, by omega⟩, ?_⟩
        refine ⟨_, _, _, hmE, cputs_2, eqBk_rfl, ?_⟩
        exact ⟨rfl, false, _, 522, _, set_same hmE, ⟨rfl, by omega⟩, ⟨_, _, _, rfl, hFE.set (Nat.le_succ _), hSE.set hmE rfl (by omega)⟩⟩
      · replace h22 := ne_of_beq_false h22
        refine ⟨fun h37 => ?_, fun h37 => ?_⟩
        · replace h37 := eq_of_beq h37
          refine ⟨_, s_l01Next_ok B E.2.1 hS6, ?_⟩
          rintro _ G40 ⟨z40, rfl, hz40, hf40, hS40⟩
          obtain ⟨x40, rfl⟩ : ∃ x : Nat, z40 = (x : Int) := ⟨z40.toNat, by have := hz40.1; omega⟩
          have hb40 := hz40.2.2 (by omega)
          refine ⟨_, s_l01Next_ok B E.2.1 hS40, ?_⟩
          rintro _ G42 ⟨z42, rfl, hz42, hf42, hS42⟩
          refine ⟨x40, _, rfl, by omega, rfl, ?_⟩
          have hF42 := (hF6.trans hf40).trans hf42
          have hk42 := hf42.get (hf40.get hk6 (by omega)) (by omega)
          have hm42 := hf42.get (hf40.get hm6 (by omega)) (by omega)
          refine ⟨_, _, .by [p, q] 522 (upd f (0 + 2 + x40 * 1) (byt z42)), hk42, cput_u (by simp <;> omega) (by omega), eqBk_rfl, ?_⟩
          have hkE := set_same (B := ⟨false, .by [p, q] 522 (upd f (0 + 2 + x40 * 1) (byt z42))⟩) hk42
          have hmE := set_other (B := ⟨false, .by [p, q] 522 (upd f (0 + 2 + x40 * 1) (byt z42))⟩) hm42 (show H.length ≠ H.length + 1 by omega)
          have hFE := hF42.set (B := ⟨false, .by [p, q] 522 (upd f (0 + 2 + x40 * 1) (byt z42))⟩) (Nat.le_refl _)
          have hSE := hS42.set (B := ⟨false, .by [p, q] 522 (upd f (0 + 2 + x40 * 1) (byt z42))⟩) hk42 rfl (by omega)
          refine .inl ⟨_, _, _, _, hkE, ⟨rfl, by omega⟩, ?_⟩
          refine ⟨_, _, _, hmE, cputs_2, eqBk_rfl, ?_⟩
          exact ⟨rfl, false, _, 522, _, set_same hmE, ⟨rfl, by omega⟩, ⟨_, _, _, rfl, hFE.set (Nat.le_succ _), hSE.set hmE rfl (by omega)⟩⟩
        · replace h37 := ne_of_beq_false h37
          have hkE := hk6
          have hmE := hm6
          have hFE := hF6
          have hSE := hS6
          refine .inl ⟨_, _, _, _, hkE, ⟨rfl, by omega⟩, ?_⟩
          refine ⟨_, _, _, hmE, cputs_2, eqBk_rfl, ?_⟩
          exact ⟨rfl, false, _, 522, _, set_same hmE, ⟨rfl, by omega⟩, ⟨_, _, _, rfl, hFE.set (Nat.le_succ _), hSE.set hmE rfl (by omega)⟩⟩

theorem s_l01Spoil_ok (B : Bs P ρ) (E : F_s_l01Spoil P ρ) {H : List Blk} {s : Nat} (hS : Src H s) :
    CallR P ρ 194 [.pt s 0] H (DrA H s) := by
  have hsl := hS.lt
  refine call_of_q B.fn B.mo E.1 rfl (fun hAr hHp => ?_) (by simp [At.lt, hS.lt])
  refine ⟨_, rfl, ?_⟩
  refine ⟨_, s_l01Draw_ok B E.2.1 (hS.ext Ext.app), ?_⟩
  rintro _ G5 ⟨p, q, f, rfl, hf5, hS5⟩
  refine ⟨_, s_l01Bad_ok B E.2.2 (p := p) (q := q) (f := f) hS5, ?_⟩
  rintro _ G6 ⟨p6, q6, f6, rfl, hf6, hS6⟩
  have hF6 : Fr [s] H G6 := (Ext.app.fr.trans hf5).trans hf6
  have hm6 := hf6.get (hf5.get get_new (by omega)) (by omega)
  refine ⟨_, _, _, hm6, cputs_2, eqBk_rfl, ?_⟩
  exact ⟨rfl, false, _, 522, _, set_same hm6, ⟨rfl, by omega⟩, ⟨_, _, _, rfl, hF6.set (Nat.le_refl _), hS6.set hm6 rfl (by omega)⟩⟩


end Hf
namespace Hf
open Go Classical
variable {P : Program} {ρ : Nat → FuncId}
theorem ifc {α : Type} {p q : Prop} {i1 : Decidable p} {i2 : Decidable q} {a b : α} (h : p ↔ q) : @ite α p i1 a b = @ite α q i2 a b := by
  by_cases hp : p
  · rw [if_pos hp, if_pos (h.1 hp)]
  · rw [if_neg hp, if_neg (fun q => hp (h.2 q))]
def dTf (f : By) (o : Nat) : By := fun x => f (o + (x / 8 % 8) * 64 + (x % 8) * 8 + x / 64)
def dBf (f : By) (o : Nat) : By := fun x => f (o + (x % 8) * 64 + (x / 64) * 8 + x / 8 % 8)
theorem i_dualTable_ok (B : Bs P ρ) (E : F_i_dualTable P ρ) {H : List Blk} {k off N : Nat} {r : Bool} {hd : List Int} {f : By} (hk : H[k]? = some ⟨r, .by hd N f⟩) (h0 : hd.length ≤ off) (hN : off + 512 ≤ N) :
    CallR P ρ 347 [.pt k off] H (fun u G => u = .one (.ag [] 512 (dTf f off)) ∧ G = H) := by
  refine CallR.pure (call_of_q B.fn B.mo E rfl (fun hAr hHp => ?_) (by simp [At.lt, lt_of hk])) rfl
  refine ⟨_, rfl, ?_⟩
  refine ⟨_, rfl, ?_⟩
  refine ⟨_, _, _, get_new, cputs_by (by simp) (by omega), eqBk_rfl, ?_⟩
  rw [app_set0]
  refine ⟨Unit, (fun a0 a2 a3 (i0 : Nat) (x0 : Unit) => [(0, a0), (2, a2), (3, a3), (8, .one (.i .i64 ((i0 : Nat) : Int)))]) _ _ _ , fun (i0 : Nat) (x0 : Unit) (G0 : List Blk) => (∃ w, G0 = H ++ [⟨false, .by [] 512 fun _ => 0⟩] ++ [⟨false, .by [] 512 w⟩] ∧ ∀ x, x < 512 → w x = if x < i0 * 64 then dTf f off x else 0), 8, ⟨(), ⟨_, rfl, fun x hx => by simp [spl, hx]⟩, ⟨rfl, rfl, rfl, rfl, trivial⟩⟩, ?_⟩
  rintro i0 _ G0 hi0 ⟨w0, rfl, hw0⟩
  refine ⟨fun h9 => ?_, fun h9 => ?_⟩
  · replace h9 := of_decide_eq_true h9
    refine ⟨Unit, (fun a0 a2 a3 a4 a8 (i1 : Nat) (x1 : Unit) => [(0, a0), (2, a2), (3, a3), (4, a4), (8, a8), (11, .one (.i .i64 ((i1 : Nat) : Int)))]) _ _ _ _ _ , fun (i1 : Nat) (x1 : Unit) (G1 : List Blk) => (∃ w, G1 = H ++ [⟨false, .by [] 512 fun _ => 0⟩] ++ [⟨false, .by [] 512 w⟩] ∧ ∀ x, x < 512 → w x = if x < i0 * 64 + i1 * 8 then dTf f off x else 0), 8, ⟨(), ⟨_, rfl, fun x hx => by rw [hw0 x hx]; exact ifc (by omega)⟩, ⟨rfl, rfl, rfl, rfl, rfl, rfl, trivial⟩⟩, ?_⟩
    rintro i1 _ G1 hi1 ⟨w1, rfl, hw1⟩
    refine ⟨fun h12 => ?_, fun h12 => ?_⟩
    · replace h12 := of_decide_eq_true h12
      refine ⟨Unit, (fun a0 a2 a3 a4 a5 a8 a11 (i2 : Nat) (x2 : Unit) => [(0, a0), (2, a2), (3, a3), (4, a4), (5, a5), (8, a8), (11, a11), (14, .one (.i .i64 ((i2 : Nat) : Int)))]) _ _ _ _ _ _ _ , fun (i2 : Nat) (x2 : Unit) (G2 : List Blk) => (∃ w, G2 = H ++ [⟨false, .by [] 512 fun _ => 0⟩] ++ [⟨false, .by [] 512 w⟩] ∧ ∀ x, x < 512 → w x = if x < i0 * 64 + i1 * 8 + i2 then dTf f off x else 0), 8, ⟨(), ⟨_, rfl, fun x hx => by rw [hw1 x hx]; exact ifc (by omega)⟩, ⟨rfl, rfl, rfl, rfl, rfl, rfl, rfl, rfl, trivial⟩⟩, ?_⟩
      rintro i2 _ G2 hi2 ⟨w2, rfl, hw2⟩
      refine ⟨fun h15 => ?_, fun h15 => ?_⟩
      · replace h15 := of_decide_eq_true h15
        refine ⟨i1, _, rfl, by omega, rfl, ?_⟩
        refine ⟨i2, _, rfl, by omega, rfl, ?_⟩
        refine ⟨i0, _, rfl, by omega, rfl, ?_⟩
        refine ⟨_, .u (f (off + i1 * 64 + i2 * 8 + i0)), app_old (app_old hk), (by rw [cat_hu (by omega) (by omega)]; congr 3; omega), ?_⟩
        refine ⟨i0, _, rfl, by omega, rfl, ?_⟩
        refine ⟨i1, _, rfl, by omega, rfl, ?_⟩
        refine ⟨i2, _, rfl, by omega, rfl, ?_⟩
        refine ⟨_, _, _, get_new, cput_u (by simp) (by omega), eqBk_rfl, ?_⟩
        refine ⟨((i2 + 1 : Nat) : Int), w64_id _ (by omega) (by omega), ?_⟩
        refine ⟨by omega, (), ?_, ⟨rfl, rfl, rfl, rfl, rfl, rfl, rfl, rfl, trivial⟩⟩
        refine ⟨_, app_set0, fun x hx => ?_⟩
        by_cases e : x = i0 * 64 + i1 * 8 + i2
        · rw [show x = 0 + i0 * 64 + i1 * 8 + i2 * 1 from by omega, upd_same, if_pos (by omega)]
          unfold dTf
          congr 1; omega
        · rw [upd_ne _ _ _ _ (by omega), hw2 x hx]
          exact ifc (by omega)
      · replace h15 := of_decide_eq_false h15
        have e2 : 8 = i2 := by omega
        subst e2
        refine ⟨((i1 + 1 : Nat) : Int), w64_id _ (by omega) (by omega), ?_⟩
        exact ⟨by omega, (), ⟨_, rfl, fun x hx => by rw [hw2 x hx]; exact ifc (by omega)⟩, ⟨rfl, rfl, rfl, rfl, rfl, rfl, trivial⟩⟩
    · replace h12 := of_decide_eq_false h12
      have e1 : 8 = i1 := by omega
      subst e1
      refine ⟨((i0 + 1 : Nat) : Int), w64_id _ (by omega) (by omega), ?_⟩
      exact ⟨by omega, (), ⟨_, rfl, fun x hx => by rw [hw1 x hx]; exact ifc (by omega)⟩, ⟨rfl, rfl, rfl, rfl, trivial⟩⟩
  · replace h9 := of_decide_eq_false h9
    have e0 : 8 = i0 := by omega
    subst e0
    refine ⟨_, _, _, _, dTf f off, get_new, ⟨by simp, by omega⟩, fun x hx => by rw [Nat.zero_add, hw0 x hx, if_pos (by omega)], ?_⟩
    refine ⟨_, _, _, app_old get_new, cputs_by (by simp) (by omega), eqBk_rfl, ?_⟩
    refine ⟨rfl, false, [], 512, _, dTf f off, set_same (app_old get_new), ⟨by simp, by omega⟩, fun x hx => by simp [spl, hx], rfl, ?_⟩
    exact (Ext.app.trans Ext.app).set (by omega)

theorem i_dualBack_ok (B : Bs P ρ) (E : F_i_dualBack P ρ) {H : List Blk} {k off N : Nat} {r : Bool} {hd : List Int} {f : By} (hk : H[k]? = some ⟨r, .by hd N f⟩) (h0 : hd.length ≤ off) (hN : off + 512 ≤ N) :
    CallR P ρ 346 [.pt k off] H (fun u G => u = .one (.ag [] 512 (dBf f off)) ∧ G = H) := by
  refine CallR.pure (call_of_q B.fn B.mo E rfl (fun hAr hHp => ?_) (by simp [At.lt, lt_of hk])) rfl
  refine ⟨_, rfl, ?_⟩
  refine ⟨_, rfl, ?_⟩
  refine ⟨_, _, _, get_new, cputs_by (by simp) (by omega), eqBk_rfl, ?_⟩
  rw [app_set0]
  refine ⟨Unit, (fun a0 a2 a3 (i0 : Nat) (x0 : Unit) => [(0, a0), (2, a2), (3, a3), (8, .one (.i .i64 ((i0 : Nat) : Int)))]) _ _ _ , fun (i0 : Nat) (x0 : Unit) (G0 : List Blk) => (∃ w, G0 = H ++ [⟨false, .by [] 512 fun _ => 0⟩] ++ [⟨false, .by [] 512 w⟩] ∧ ∀ x, x < 512 → w x = if x % 8 < i0 then dBf f off x else 0), 8, ⟨(), ⟨_, rfl, fun x hx => by simp [spl, hx]⟩, ⟨rfl, rfl, rfl, rfl, trivial⟩⟩, ?_⟩
  rintro i0 _ G0 hi0 ⟨w0, rfl, hw0⟩
  refine ⟨fun h9 => ?_, fun h9 => ?_⟩
  · replace h9 := of_decide_eq_true h9
    refine ⟨Unit, (fun a0 a2 a3 a4 a8 (i1 : Nat) (x1 : Unit) => [(0, a0), (2, a2), (3, a3), (4, a4), (8, a8), (11, .one (.i .i64 ((i1 : Nat) : Int)))]) _ _ _ _ _ , fun (i1 : Nat) (x1 : Unit) (G1 : List Blk) => (∃ w, G1 = H ++ [⟨false, .by [] 512 fun _ => 0⟩] ++ [⟨false, .by [] 512 w⟩] ∧ ∀ x, x < 512 → w x = if x % 8 < i0 ∨ (x % 8 = i0 ∧ x / 8 < i1 * 8) then dBf f off x else 0), 8, ⟨(), ⟨_, rfl, fun x hx => by rw [hw0 x hx]; exact ifc (by omega)⟩, ⟨rfl, rfl, rfl, rfl, rfl, rfl, trivial⟩⟩, ?_⟩
    rintro i1 _ G1 hi1 ⟨w1, rfl, hw1⟩
    refine ⟨fun h12 => ?_, fun h12 => ?_⟩
    · replace h12 := of_decide_eq_true h12
      refine ⟨Unit, (fun a0 a2 a3 a4 a5 a8 a11 (i2 : Nat) (x2 : Unit) => [(0, a0), (2, a2), (3, a3), (4, a4), (5, a5), (8, a8), (11, a11), (14, .one (.i .i64 ((i2 : Nat) : Int)))]) _ _ _ _ _ _ _ , fun (i2 : Nat) (x2 : Unit) (G2 : List Blk) => (∃ w, G2 = H ++ [⟨false, .by [] 512 fun _ => 0⟩] ++ [⟨false, .by [] 512 w⟩] ∧ ∀ x, x < 512 → w x = if x % 8 < i0 ∨ (x % 8 = i0 ∧ x / 8 < i1 * 8 + i2) then dBf f off x else 0), 8, ⟨(), ⟨_, rfl, fun x hx => by rw [hw1 x hx]; exact ifc (by omega)⟩, ⟨rfl, rfl, rfl, rfl, rfl, rfl, rfl, rfl, trivial⟩⟩, ?_⟩
      rintro i2 _ G2 hi2 ⟨w2, rfl, hw2⟩
      refine ⟨fun h15 => ?_, fun h15 => ?_⟩
      · replace h15 := of_decide_eq_true h15
        refine ⟨i0, _, rfl, by omega, rfl, ?_⟩
        refine ⟨i1, _, rfl, by omega, rfl, ?_⟩
        refine ⟨i2, _, rfl, by omega, rfl, ?_⟩
        refine ⟨_, .u (f (off + i0 * 64 + i1 * 8 + i2)), app_old (app_old hk), (by rw [cat_hu (by omega) (by omega)]; congr 3; omega), ?_⟩
        refine ⟨i1, _, rfl, by omega, rfl, ?_⟩
        refine ⟨i2, _, rfl, by omega, rfl, ?_⟩
        refine ⟨i0, _, rfl, by omega, rfl, ?_⟩
        refine ⟨_, _, _, get_new, cput_u (by simp) (by omega), eqBk_rfl, ?_⟩
        refine ⟨((i2 + 1 : Nat) : Int), w64_id _ (by omega) (by omega), ?_⟩
        refine ⟨by omega, (), ?_, ⟨rfl, rfl, rfl, rfl, rfl, rfl, rfl, rfl, trivial⟩⟩
        refine ⟨_, app_set0, fun x hx => ?_⟩
        by_cases e : x = i1 * 64 + i2 * 8 + i0
        · rw [show x = 0 + i1 * 64 + i2 * 8 + i0 * 1 from by omega, upd_same, if_pos (by omega)]
          unfold dBf
          congr 1; omega
        · rw [upd_ne _ _ _ _ (by omega), hw2 x hx]
          exact ifc (by omega)
      · replace h15 := of_decide_eq_false h15
        have e2 : 8 = i2 := by omega
        subst e2
        refine ⟨((i1 + 1 : Nat) : Int), w64_id _ (by omega) (by omega), ?_⟩
        exact ⟨by omega, (), ⟨_, rfl, fun x hx => by rw [hw2 x hx]; exact ifc (by omega)⟩, ⟨rfl, rfl, rfl, rfl, rfl, rfl, trivial⟩⟩
    · replace h12 := of_decide_eq_false h12
      have e1 : 8 = i1 := by omega
      subst e1
      refine ⟨((i0 + 1 : Nat) : Int), w64_id _ (by omega) (by omega), ?_⟩
      exact ⟨by omega, (), ⟨_, rfl, fun x hx => by rw [hw1 x hx]; exact ifc (by omega)⟩, ⟨rfl, rfl, rfl, rfl, trivial⟩⟩
  · replace h9 := of_decide_eq_false h9
    have e0 : 8 = i0 := by omega
    subst e0
    refine ⟨_, _, _, _, dBf f off, get_new, ⟨by simp, by omega⟩, fun x hx => by rw [Nat.zero_add, hw0 x hx, if_pos (by omega)], ?_⟩
    refine ⟨_, _, _, app_old get_new, cputs_by (by simp) (by omega), eqBk_rfl, ?_⟩
    refine ⟨rfl, false, [], 512, _, dBf f off, set_same (app_old get_new), ⟨by simp, by omega⟩, fun x hx => by simp [spl, hx], rfl, ?_⟩
    exact (Ext.app.trans Ext.app).set (by omega)


end Hf
namespace Hf
open Go Classical
variable {P : Program} {ρ : Nat → FuncId}
/-- the dual of an algebra as a coalgebra -/
def dcF (f : By) : By := spl (spl (fun _ => 0) 2 8 (sh f 2)) 10 512 (dBf (dBf (sh f 10) 0) 0)
noncomputable def dcV (p n : Int) (f : By) : Sv := .tup [.ag [if Alg p n f then p else 0, if Alg p n f then n else 0] 522 (if Alg p n f then dcF f else fun _ => 0), .i .i64 (oc (Alg p n f) 1)]
theorem s_l02Turned_ok (B : Bs P ρ) (E : F_s_l02Turned P ρ) {f : By} :
    CallOK P ρ 210 [.ag [] 512 f] [] (.one (.ag [] 512 (dBf f 0))) [] := by
  refine (CallR.pure (call_of_q B.fn B.mo E rfl (fun _ _ => ?_) rfl) rfl).ok
  refine ⟨_, rfl, ?_⟩
  refine ⟨_, rfl, ?_⟩
  refine ⟨_, rfl, ?_⟩
  refine ⟨_, _, _, rfl, cputs_by (by simp) (by omega), eqBk_rfl, ?_⟩
  refine ⟨Unit, (fun a1 a2 a3 (i0 : Nat) (x0 : Unit) => [(1, a1), (2, a2), (3, a3), (4, .one (.i .i64 ((i0 : Nat) : Int)))]) _ _ _ , fun (i0 : Nat) (x0 : Unit) (G0 : List Blk) => (∃ w, G0 = [⟨false, .by [] 512 f⟩, ⟨false, .by [] 512 fun _ => 0⟩, ⟨false, .by [] 512 w⟩] ∧ ∀ x, x < 512 → w x = if x % 8 < i0 then dBf f 0 x else 0), 8, ⟨(), ⟨_, rfl, fun x hx => by simp [spl, hx]⟩, ⟨rfl, rfl, rfl, rfl, trivial⟩⟩, ?_⟩
  rintro i0 _ G0 hi0 ⟨w0, rfl, hw0⟩
  refine ⟨fun h9 => ?_, fun h9 => ?_⟩
  · replace h9 := of_decide_eq_true h9
    refine ⟨Unit, (fun a1 a2 a3 a4 (i1 : Nat) (x1 : Unit) => [(1, a1), (2, a2), (3, a3), (4, a4), (5, .one (.i .i64 ((i1 : Nat) : Int)))]) _ _ _ _ , fun (i1 : Nat) (x1 : Unit) (G1 : List Blk) => (∃ w, G1 = [⟨false, .by [] 512 f⟩, ⟨false, .by [] 512 fun _ => 0⟩, ⟨false, .by [] 512 w⟩] ∧ ∀ x, x < 512 → w x = if x % 8 < i0 ∨ (x % 8 = i0 ∧ x / 8 < i1 * 8) then dBf f 0 x else 0), 8, ⟨(), ⟨_, rfl, fun x hx => by rw [hw0 x hx]; exact ifc (by omega)⟩, ⟨rfl, rfl, rfl, rfl, rfl, trivial⟩⟩, ?_⟩
    rintro i1 _ G1 hi1 ⟨w1, rfl, hw1⟩
    refine ⟨fun h13 => ?_, fun h13 => ?_⟩
    · replace h13 := of_decide_eq_true h13
      refine ⟨Unit, (fun a1 a2 a3 a4 a5 (i2 : Nat) (x2 : Unit) => [(1, a1), (2, a2), (3, a3), (4, a4), (5, a5), (6, .one (.i .i64 ((i2 : Nat) : Int)))]) _ _ _ _ _ , fun (i2 : Nat) (x2 : Unit) (G2 : List Blk) => (∃ w, G2 = [⟨false, .by [] 512 f⟩, ⟨false, .by [] 512 fun _ => 0⟩, ⟨false, .by [] 512 w⟩] ∧ ∀ x, x < 512 → w x = if x % 8 < i0 ∨ (x % 8 = i0 ∧ x / 8 < i1 * 8 + i2) then dBf f 0 x else 0), 8, ⟨(), ⟨_, rfl, fun x hx => by rw [hw1 x hx]; exact ifc (by omega)⟩, ⟨rfl, rfl, rfl, rfl, rfl, rfl, trivial⟩⟩, ?_⟩
      rintro i2 _ G2 hi2 ⟨w2, rfl, hw2⟩
      refine ⟨fun h17 => ?_, fun h17 => ?_⟩
      · replace h17 := of_decide_eq_true h17
        refine ⟨i0, _, rfl, by omega, rfl, ?_⟩
        refine ⟨i1, _, rfl, by omega, rfl, ?_⟩
        refine ⟨i2, _, rfl, by omega, rfl, ?_⟩
        refine ⟨_, _, rfl, cat_bq (i0 * 64 + i1 * 8 + i2) (by omega) (by simp) (by omega), ?_⟩
        refine ⟨i1, _, rfl, by omega, rfl, ?_⟩
        refine ⟨i2, _, rfl, by omega, rfl, ?_⟩
        refine ⟨i0, _, rfl, by omega, rfl, ?_⟩
        refine ⟨_, _, _, rfl, cput_u (by simp) (by omega), eqBk_rfl, ?_⟩
        refine ⟨((i2 + 1 : Nat) : Int), w64_id _ (by omega) (by omega), ?_⟩
        refine ⟨by omega, (), ?_, ⟨rfl, rfl, rfl, rfl, rfl, rfl, trivial⟩⟩
        refine ⟨_, rfl, fun x hx => ?_⟩
        by_cases e : x = i1 * 64 + i2 * 8 + i0
        · rw [show x = 0 + i1 * 64 + i2 * 8 + i0 * 1 from by omega, upd_same, if_pos (by omega)]
          unfold dBf
          congr 1; omega
        · rw [upd_ne _ _ _ _ (by omega), hw2 x hx]
          exact ifc (by omega)
      · replace h17 := of_decide_eq_false h17
        have e2 : 8 = i2 := by omega
        subst e2
        refine ⟨((i1 + 1 : Nat) : Int), w64_id _ (by omega) (by omega), ?_⟩
        exact ⟨by omega, (), ⟨_, rfl, fun x hx => by rw [hw2 x hx]; exact ifc (by omega)⟩, ⟨rfl, rfl, rfl, rfl, rfl, trivial⟩⟩
    · replace h13 := of_decide_eq_false h13
      have e1 : 8 = i1 := by omega
      subst e1
      refine ⟨((i0 + 1 : Nat) : Int), w64_id _ (by omega) (by omega), ?_⟩
      exact ⟨by omega, (), ⟨_, rfl, fun x hx => by rw [hw1 x hx]; exact ifc (by omega)⟩, ⟨rfl, rfl, rfl, rfl, trivial⟩⟩
  · replace h9 := of_decide_eq_false h9
    have e0 : 8 = i0 := by omega
    subst e0
    refine ⟨_, _, _, _, dBf f 0, rfl, ⟨by simp, by omega⟩, fun x hx => by rw [Nat.zero_add, hw0 x hx, if_pos (by omega)], ?_⟩
    refine ⟨_, _, _, rfl, cputs_by (by simp) (by omega), eqBk_rfl, ?_⟩
    exact ⟨rfl, false, [], 512, _, dBf f 0, rfl, ⟨by simp, by omega⟩, fun x hx => by simp [spl, hx], rfl, Ext.nil⟩

theorem s_DualCoalgebra_ok (B : Bs P ρ) (E : F_s_DualCoalgebra P ρ) {p n : Int} {f : By} :
    CallOK P ρ 207 [.ag [p, n] 522 f] [] (dcV p n f) [] := by
  refine (CallR.pure (call_of_q B.fn B.mo E.1 rfl (fun _ _ => ?_) rfl) rfl).ok
  refine ⟨_, rfl, ?_⟩
  refine ⟨_, rfl, ?_⟩
  refine .inl ⟨_, _, _, _, rfl, ⟨rfl, by omega⟩, ?_⟩
  refine ⟨_, s_l01Is_ok B E.2.1 (p := p) (n := n) (f := f), rfl, ?_⟩
  refine ⟨fun h6 => ?_, fun h6 => ?_⟩
  · skip
    have hA : ¬ Alg p n f := fun z => by rw [decide_eq_true z] at h6; cases h6
    refine ⟨_, _, _, rfl, cputs_2, eqBk_rfl, ?_⟩
    first
      | (refine ⟨rfl, false, _, 522, _, rfl, ⟨rfl, by omega⟩, ?_, Ext.nil⟩
         show _ = dcV p n f
         unfold dcV
         rw [if_neg hA, if_neg hA, if_neg hA, oc_f hA]
         rfl)
      | (refine ⟨rfl, false, _, 522, _, rfl, ⟨rfl, by omega⟩, ?_, Ext.nil⟩
         show _ = dcV p n f
         unfold dcV
         rw [if_pos hA, if_pos hA, if_pos hA, oc_t hA]
         rfl)
  · skip
    have hA : Alg p n f := by simpa using h6
    refine ⟨_, _, rfl, rfl, ?_⟩
    refine ⟨_, _, rfl, rfl, ?_⟩
    refine ⟨_, _, _, _, sh f 2, rfl, ⟨by simp, by omega⟩, fun x hx => rfl, ?_⟩
    refine ⟨_, _, _, _, sh f 10, rfl, ⟨by simp, by omega⟩, fun x hx => rfl, ?_⟩
    refine ⟨_, s_l02Turned_ok B E.2.2 (f := sh f 10), rfl, ?_⟩
    refine ⟨_, s_l02Turned_ok B E.2.2 (f := dBf (sh f 10) 0), rfl, ?_⟩
    refine ⟨_, _, _, rfl, cputs_2, eqBk_rfl, ?_⟩
    first
      | (refine ⟨rfl, false, _, 522, _, rfl, ⟨rfl, by omega⟩, ?_, Ext.nil⟩
         show _ = dcV p n f
         unfold dcV
         rw [if_neg hA, if_neg hA, if_neg hA, oc_f hA]
         rfl)
      | (refine ⟨rfl, false, _, 522, _, rfl, ⟨rfl, by omega⟩, ?_, Ext.nil⟩
         show _ = dcV p n f
         unfold dcV
         rw [if_pos hA, if_pos hA, if_pos hA, oc_t hA]
         rfl)

set_option maxHeartbeats 2000000 in
theorem s_l02Draw_ok (B : Bs P ρ) (E : F_s_l02Draw P ρ) {H : List Blk} {s : Nat} (hS : Src H s) :
    CallR P ρ 201 [.pt s 0] H (DrA H s) := by
  have hsl := hS.lt
  refine call_of_q B.fn B.mo E.1 rfl (fun hAr hHp => ?_) (by simp [At.lt, hS.lt])
  refine ⟨_, rfl, ?_⟩
  refine ⟨_, s_l01Next_ok B E.2.1 (hS.ext Ext.app), ?_⟩
  rintro _ G11 ⟨z11, rfl, hz11, hf11, hS11⟩
  have hF11 : Fr [s] H G11 := (Ext.app.fr).trans hf11
  have hm11 := hf11.get get_new (by omega)
  refine ⟨fun h12 => ?_, fun h12 => ?_⟩
  · replace h12 := eq_of_beq h12
    refine ⟨_, s_l01DrawPrime_ok B E.2.2.1 hS11, ?_⟩
    rintro _ G15 ⟨p, hp, rfl, hf15, hS15⟩
    refine ⟨_, s_l01Next_ok B E.2.1 hS15, ?_⟩
    rintro _ G17 ⟨z17, rfl, hz17, hf17, hS17⟩
    obtain ⟨x17, rfl⟩ : ∃ x : Nat, z17 = (x : Int) := ⟨z17.toNat, by have := hz17.1; omega⟩
    have hb17 := hz17.2.2 (by omega)
    have hA : ∀ X : List Blk, (G17 ++ X)[H.length]? = some ⟨false, (Zk.by 2 522).bk⟩ ∧ Fr [s] H (G17 ++ X) ∧ Src (G17 ++ X) s := fun X =>
      ⟨app_old (hf17.get (hf15.get hm11 (by omega)) (by omega)), ((hF11.trans hf15).trans hf17).trans Ext.app.fr, hS17.ext Ext.app⟩
    refine ⟨((1 + x17 : Nat) : Int), (w64_id _ (by omega) (by omega)).trans (by omega), ?_⟩
    refine ⟨_, rfl, ?_⟩
    refine ⟨_, _, _, get_new, cputs_2, eqBk_rfl, ?_⟩
    rw [app_set0]
    refine ⟨Unit, (fun a2 a3 (i0 : Nat) (x0 : Unit) => [(2, a2), (3, a3), (4, .one (.i .i64 ((i0 : Nat) : Int)))]) _ _ , fun (i0 : Nat) (x0 : Unit) (G0 : List Blk) => (∃ f : By, G0 = G17 ++ [⟨false, .by [p, ((1 + x17 : Nat) : Int)] 522 f⟩]), 1 + x17, ⟨(), ⟨_, rfl⟩, ⟨rfl, rfl, rfl, trivial⟩⟩, ?_⟩
    rintro i0 _ G0 hi0 ⟨f0, rfl⟩
    refine ⟨_, _, get_new, rfl, ?_⟩
    refine ⟨fun h23 => ?_, fun h23 => ?_⟩
    · replace h23 := of_decide_eq_true h23
      refine ⟨i0, _, rfl, by omega, rfl, ?_⟩
      refine ⟨_, _, _, get_new, cput_u (by simp <;> omega) (by omega), eqBk_rfl, ?_⟩
      rw [app_set0]
      refine ⟨i0, _, rfl, by omega, rfl, ?_⟩
      refine ⟨i0, _, rfl, by omega, rfl, ?_⟩
      refine ⟨i0, _, rfl, by omega, rfl, ?_⟩
      refine ⟨_, _, _, get_new, cput_u (by simp <;> omega) (by omega), eqBk_rfl, ?_⟩
      refine ⟨((i0 + 1 : Nat) : Int), w64_id _ (by omega) (by omega), ?_⟩
      exact ⟨by omega, (), ⟨_, app_set0⟩, ⟨rfl, rfl, rfl, trivial⟩⟩
    · replace h23 := of_decide_eq_false h23
      have e0 : 1 + x17 = i0 := by omega
      subst e0
      refine .inl ⟨_, _, _, _, get_new, ⟨rfl, by omega⟩, ?_⟩
      refine ⟨_, _, _, (hA _).1, cputs_2, eqBk_rfl, ?_⟩
      exact ⟨rfl, false, _, 522, _, set_same (hA _).1, ⟨rfl, by omega⟩, ⟨_, _, _, rfl, (hA _).2.1.set (Nat.le_refl _), (hA _).2.2.set (hA _).1 rfl (by omega)⟩⟩
  · replace h12 := ne_of_beq_false h12
    refine ⟨fun h37 => ?_, fun h37 => ?_⟩
    · replace h37 := eq_of_beq h37
      refine ⟨_, s_l01DrawPrime_ok B E.2.2.1 hS11, ?_⟩
      rintro _ G40 ⟨p, hp, rfl, hf40, hS40⟩
      refine ⟨_, s_l01Next_ok B E.2.1 hS40, ?_⟩
      rintro _ G42 ⟨z42, rfl, hz42, hf42, hS42⟩
      obtain ⟨x42, rfl⟩ : ∃ x : Nat, z42 = (x : Int) := ⟨z42.toNat, by have := hz42.1; omega⟩
      have hb42 := hz42.2.2 (by omega)
      have hA : ∀ X : List Blk, (G42 ++ X)[H.length]? = some ⟨false, (Zk.by 2 522).bk⟩ ∧ Fr [s] H (G42 ++ X) ∧ Src (G42 ++ X) s := fun X =>
        ⟨app_old (hf42.get (hf40.get hm11 (by omega)) (by omega)), ((hF11.trans hf40).trans hf42).trans Ext.app.fr, hS42.ext Ext.app⟩
      refine ⟨((1 + x42 : Nat) : Int), (w64_id _ (by omega) (by omega)).trans (by omega), ?_⟩
      refine ⟨_, rfl, ?_⟩
      refine ⟨_, _, _, get_new, cputs_2, eqBk_rfl, ?_⟩
      rw [app_set0]
      refine ⟨Unit, (fun a2 a5 (i1 : Nat) (x1 : Unit) => [(2, a2), (5, a5), (6, .one (.i .i64 ((i1 : Nat) : Int)))]) _ _ , fun (i1 : Nat) (x1 : Unit) (G1 : List Blk) => (∃ f : By, G1 = G42 ++ [⟨false, .by [p, ((1 + x42 : Nat) : Int)] 522 f⟩]), 1 + x42, ⟨(), ⟨_, rfl⟩, ⟨rfl, rfl, rfl, trivial⟩⟩, ?_⟩
      rintro i1 _ G1 hi1 ⟨f1, rfl⟩
      refine ⟨_, _, get_new, rfl, ?_⟩
      refine ⟨fun h49 => ?_, fun h49 => ?_⟩
      · replace h49 := of_decide_eq_true h49
        refine ⟨Unit, (fun a2 a5 a6 (i2 : Nat) (x2 : Unit) => [(2, a2), (5, a5), (6, a6), (7, .one (.i .i64 ((i2 : Nat) : Int)))]) _ _ _ , fun (i2 : Nat) (x2 : Unit) (G2 : List Blk) => (∃ f : By, G2 = G42 ++ [⟨false, .by [p, ((1 + x42 : Nat) : Int)] 522 f⟩]), i1 + 1, ⟨(), ⟨_, rfl⟩, ⟨rfl, rfl, rfl, rfl, trivial⟩⟩, ?_⟩
        rintro i2 _ G2 hi2 ⟨f2, rfl⟩
        refine ⟨fun h54 => ?_, fun h54 => ?_⟩
        · replace h54 := of_decide_eq_true h54
          refine ⟨((i1 - i2 : Nat) : Int), (w64_id _ (by omega) (by omega)).trans (by omega), ?_⟩
          refine ⟨i1, _, rfl, by omega, rfl, ?_⟩
          refine ⟨i2, _, rfl, by omega, rfl, ?_⟩
          refine ⟨i1 - i2, _, rfl, by omega, rfl, ?_⟩
          refine ⟨_, _, _, get_new, cput_u (by simp <;> omega) (by omega), eqBk_rfl, ?_⟩
          refine ⟨((i2 + 1 : Nat) : Int), w64_id _ (by omega) (by omega), ?_⟩
          exact ⟨by omega, (), ⟨_, app_set0⟩, ⟨rfl, rfl, rfl, rfl, trivial⟩⟩
        · replace h54 := of_decide_eq_false h54
          have e2 : i1 + 1 = i2 := by omega
          subst e2
          refine ⟨((i1 + 1 : Nat) : Int), w64_id _ (by omega) (by omega), ?_⟩
          exact ⟨by omega, (), ⟨_, rfl⟩, ⟨rfl, rfl, rfl, trivial⟩⟩
      · replace h49 := of_decide_eq_false h49
        have e1 : 1 + x42 = i1 := by omega
        subst e1
        refine .inl ⟨_, _, _, _, get_new, ⟨rfl, by omega⟩, ?_⟩
        refine ⟨_, _, _, (hA _).1, cputs_2, eqBk_rfl, ?_⟩
        exact ⟨rfl, false, _, 522, _, set_same (hA _).1, ⟨rfl, by omega⟩, ⟨_, _, _, rfl, (hA _).2.1.set (Nat.le_refl _), (hA _).2.2.set (hA _).1 rfl (by omega)⟩⟩
    · replace h37 := ne_of_beq_false h37
      refine ⟨_, s_l01Draw_ok B E.2.2.2.1 hS11, ?_⟩
      rintro _ G69 ⟨p69, q69, f69, rfl, hf69, hS69⟩
      have hA : ∀ X : List Blk, (G69 ++ X)[H.length]? = some ⟨false, (Zk.by 2 522).bk⟩ ∧ Fr [s] H (G69 ++ X) ∧ Src (G69 ++ X) s := fun X =>
        ⟨app_old (hf69.get hm11 (by omega)), (hF11.trans hf69).trans Ext.app.fr, hS69.ext Ext.app⟩
      refine ⟨_, s_DualCoalgebra_ok B E.2.2.2.2 (p := p69) (n := q69) (f := f69), rfl, ?_⟩
      refine ⟨_, rfl, ?_⟩
      refine ⟨_, _, _, get_new, cputs_2, eqBk_rfl, ?_⟩
      rw [app_set0]
      refine .inl ⟨_, _, _, _, get_new, ⟨rfl, by omega⟩, ?_⟩
      refine ⟨_, _, _, (hA _).1, cputs_2, eqBk_rfl, ?_⟩
      exact ⟨rfl, false, _, 522, _, set_same (hA _).1, ⟨rfl, by omega⟩, ⟨_, _, _, rfl, (hA _).2.1.set (Nat.le_refl _), (hA _).2.2.set (hA _).1 rfl (by omega)⟩⟩

set_option maxHeartbeats 2000000 in
theorem s_l02Bad_ok (B : Bs P ρ) (E : F_s_l02Bad P ρ) {H : List Blk} {s : Nat} {p q : Int} {f : By} (hS : Src H s) :
    CallR P ρ 202 [.pt s 0, .ag [p, q] 522 f] H (DrA H s) := by
  have hsl := hS.lt
  refine call_of_q B.fn B.mo E.1 rfl (fun hAr hHp => ?_) (by simp [At.lt, hS.lt])
  refine ⟨_, rfl, ?_⟩
  refine ⟨H.length + 1, by simp, ?_⟩
  refine ⟨_, s_l01Next_ok B E.2.1 ((hS.ext Ext.app).ext Ext.app), ?_⟩
  rintro _ G6 ⟨z6, rfl, hz6, hf6, hS6⟩
  have hF6 : Fr [s] H G6 := (Ext.app.trans Ext.app).fr.trans hf6
  have hk6 := hf6.get (k := H.length) (app_old get_new) (by omega)
  have hm6 := hf6.get (k := H.length + 1) get_new1 (by omega)
  refine ⟨fun h7 => ?_, fun h7 => ?_⟩
  · replace h7 := eq_of_beq h7
    refine ⟨_, rfl, ?_⟩
    refine ⟨_, s_l01Pick_ok B E.2.2 (L := [0, 4, 37]) (hS6.ext Ext.app) ⟨false, _, get_new, by simp, rfl⟩ (by simp [At.lt]) (by have := hS6.lt; simp [spB]; omega) (by simp), ?_⟩
    rintro _ G11 ⟨z11, hz11, rfl, hf11, hS11⟩
    have hk11 := hf11.get (k := H.length) (app_old hk6) (by omega)
    have hm11 := hf11.get (k := H.length + 1) (app_old hm6) (by omega)
    refine ⟨_, _, .by [z11, q] 522 f, hk11, cput_i (by simp) (by omega), eqBk_rfl, ?_⟩
    have hkE := set_same (B := ⟨false, .by [z11, q] 522 f⟩) hk11
    have hmE := set_other (B := ⟨false, .by [z11, q] 522 f⟩) hm11 (show H.length ≠ H.length + 1 by omega)
    have hFE := ((hF6.trans Ext.app.fr).trans hf11).set (B := ⟨false, .by [z11, q] 522 f⟩) (Nat.le_refl _)
    have hSE := hS11.set (B := ⟨false, .by [z11, q] 522 f⟩) hk11 rfl (by omega)
    refine .inl ⟨_, _, _, _, hkE, ⟨rfl, by omega⟩, ?_⟩
    refine ⟨_, _, _, hmE, cputs_2, eqBk_rfl, ?_⟩
    exact ⟨rfl, false, _, 522, _, set_same hmE, ⟨rfl, by omega⟩, ⟨_, _, _, rfl, hFE.set (Nat.le_succ _), hSE.set hmE rfl (by omega)⟩⟩
  · replace h7 := ne_of_beq_false h7
    refine ⟨fun h13 => ?_, fun h13 => ?_⟩
    · replace h13 := eq_of_beq h13
      refine ⟨_, _, hk6, rfl, ?_⟩
      refine ⟨_, rfl, ?_⟩
      refine ⟨_, rfl, ?_⟩
      refine ⟨_, s_l01Pick_ok B E.2.2 (L := [0, 9, w64 (q - 1)]) (hS6.ext Ext.app) ⟨false, _, get_new, by simp, rfl⟩ (by simp [At.lt]) (by have := hS6.lt; simp [spB]; omega) (by simp), ?_⟩
      rintro _ G20 ⟨z20, hz20, rfl, hf20, hS20⟩
      have hk20 := hf20.get (k := H.length) (app_old hk6) (by omega)
      have hm20 := hf20.get (k := H.length + 1) (app_old hm6) (by omega)
      refine ⟨_, _, .by [p, z20] 522 f, hk20, cput_i (by simp) (by omega), eqBk_rfl, ?_⟩
      have hkE := set_same (B := ⟨false, .by [p, z20] 522 f⟩) hk20
      have hmE := set_other (B := ⟨false, .by [p, z20] 522 f⟩) hm20 (show H.length ≠ H.length + 1 by omega)
      have hFE := ((hF6.trans Ext.app.fr).trans hf20).set (B := ⟨false, .by [p, z20] 522 f⟩) (Nat.le_refl _)
      have hSE := hS20.set (B := ⟨false, .by [p, z20] 522 f⟩) hk20 rfl (by omega)
      refine .inl ⟨_, _, _, _, hkE, ⟨rfl, by omega⟩, ?_⟩
      refine ⟨_, _, _, hmE, cputs_2, eqBk_rfl, ?_⟩
      exact ⟨rfl, false, _, 522, _, set_same hmE, ⟨rfl, by omega⟩, ⟨_, _, _, rfl, hFE.set (Nat.le_succ _), hSE.set hmE rfl (by omega)⟩⟩
    · replace h13 := ne_of_beq_false h13
      refine ⟨fun h22 => ?_, fun h22 => ?_⟩
      · replace h22 := eq_of_beq h22
        refine ⟨_, s_l01Next_ok B E.2.1 hS6, ?_⟩
        rintro _ G25 ⟨z25, rfl, hz25, hf25, hS25⟩
        obtain ⟨x25, rfl⟩ : ∃ x : Nat, z25 = (x : Int) := ⟨z25.toNat, by have := hz25.1; omega⟩
        have hb25 := hz25.2.2 (by omega)
        refine ⟨x25, _, rfl, by omega, rfl, ?_⟩
        refine ⟨_, s_l01Next_ok B E.2.1 hS25, ?_⟩
        rintro _ G27 ⟨z27, rfl, hz27, hf27, hS27⟩
        obtain ⟨x27, rfl⟩ : ∃ x : Nat, z27 = (x : Int) := ⟨z27.toNat, by have := hz27.1; omega⟩
        have hb27 := hz27.2.2 (by omega)
        refine ⟨x27, _, rfl, by omega, rfl, ?_⟩
        refine ⟨_, s_l01Next_ok B E.2.1 hS27, ?_⟩
        rintro _ G29 ⟨z29, rfl, hz29, hf29, hS29⟩
        obtain ⟨x29, rfl⟩ : ∃ x : Nat, z29 = (x : Int) := ⟨z29.toNat, by have := hz29.1; omega⟩
        have hb29 := hz29.2.2 (by omega)
        refine ⟨_, s_l01Next_ok B E.2.1 hS29, ?_⟩
        rintro _ G31 ⟨z31, rfl, hz31, hf31, hS31⟩
        refine ⟨x29, _, rfl, by omega, rfl, ?_⟩
        have hF31 := (((hF6.trans hf25).trans hf27).trans hf29).trans hf31
        have hk31 := hf31.get (hf29.get (hf27.get (hf25.get hk6 (by omega)) (by omega)) (by omega)) (by omega)
        have hm31 := hf31.get (hf29.get (hf27.get (hf25.get hm6 (by omega)) (by omega)) (by omega)) (by omega)
        refine ⟨_, _, .by [p, q] 522 (upd f (0 + 10 + x25 * 64 + x27 * 8 + x29 * 1) (byt z31)), hk31, cput_u (by simp <;> omega) (by omega), eqBk_rfl, ?_⟩
        have hkE := set_same (B := ⟨false, .by [p, q] 522 (upd f (0 + 10 + x25 * 64 + x27 * 8 + x29 * 1) (byt z31))⟩) hk31
        have hmE := set_other (B := ⟨false, .by [p, q] 522 (upd f (0 + 10 + x25 * 64 + x27 * 8 + x29 * 1) (byt z31))⟩) hm31 (show H.length ≠ H.length + 1 by omega)
        have hFE := hF31.set (B := ⟨false, .by [p, q] 522 (upd f (0 + 10 + x25 * 64 + x27 * 8 + x29 * 1) (byt z31))⟩) (Nat.le_refl _)
        have hSE := hS31.set (B := ⟨false, .by [p, q] 522 (upd f (0 + 10 + x25 * 64 + x27 * 8 + x29 * 1) (byt z31))⟩) hk31 rfl (by omega)
        refine .inl ⟨_, _, _, _, hkE, ⟨rfl, by omega⟩, ?_⟩
        refine ⟨_, _, _, hmE, cputs_2, eqBk_rfl, ?_⟩
        exact ⟨rfl, false, _, 522, _, set_same hmE, ⟨rfl, by omega⟩, ⟨_, _, _, rfl, hFE.set (Nat.le_succ _), hSE.set hmE rfl (by omega)⟩⟩
      · replace h22 := ne_of_beq_false h22
        refine ⟨fun h37 => ?_, fun h37 => ?_⟩
        · replace h37 := eq_of_beq h37
          refine ⟨_, s_l01Next_ok B E.2.1 hS6, ?_⟩
          rintro _ G40 ⟨z40, rfl, hz40, hf40, hS40⟩
          obtain ⟨x40, rfl⟩ : ∃ x : Nat, z40 = (x : Int) := ⟨z40.toNat, by have := hz40.1; omega⟩
          have hb40 := hz40.2.2 (by omega)
          refine ⟨_, s_l01Next_ok B E.2.1 hS40, ?_⟩
          rintro _ G42 ⟨z42, rfl, hz42, hf42, hS42⟩
          refine ⟨x40, _, rfl, by omega, rfl, ?_⟩
          have hF42 := (hF6.trans hf40).trans hf42
          have hk42 := hf42.get (hf40.get hk6 (by omega)) (by omega)
          have hm42 := hf42.get (hf40.get hm6 (by omega)) (by omega)
          refine ⟨_, _, .by [p, q] 522 (upd f (0 + 2 + x40 * 1) (byt z42)), hk42, cput_u (by simp <;> omega) (by omega), eqBk_rfl, ?_⟩
          have hkE := set_same (B := ⟨false, .by [p, q] 522 (upd f (0 + 2 + x40 * 1) (byt z42))⟩) hk42
          have hmE := set_other (B := ⟨false, .by [p, q] 522 (upd f (0 + 2 + x40 * 1) (byt z42))⟩) hm42 (show H.length ≠ H.length + 1 by omega)
          have hFE := hF42.set (B := ⟨false, .by [p, q] 522 (upd f (0 + 2 + x40 * 1) (byt z42))⟩) (Nat.le_refl _)
          have hSE := hS42.set (B := ⟨false, .by [p, q] 522 (upd f (0 + 2 + x40 * 1) (byt z42))⟩) hk42 rfl (by omega)
          refine .inl ⟨_, _, _, _, hkE, ⟨rfl, by omega⟩, ?_⟩
          refine ⟨_, _, _, hmE, cputs_2, eqBk_rfl, ?_⟩
          exact ⟨rfl, false, _, 522, _, set_same hmE, ⟨rfl, by omega⟩, ⟨_, _, _, rfl, hFE.set (Nat.le_succ _), hSE.set hmE rfl (by omega)⟩⟩
        · replace h37 := ne_of_beq_false h37
          have hkE := hk6
          have hmE := hm6
          have hFE := hF6
          have hSE := hS6
          refine .inl ⟨_, _, _, _, hkE, ⟨rfl, by omega⟩, ?_⟩
          refine ⟨_, _, _, hmE, cputs_2, eqBk_rfl, ?_⟩
          exact ⟨rfl, false, _, 522, _, set_same hmE, ⟨rfl, by omega⟩, ⟨_, _, _, rfl, hFE.set (Nat.le_succ _), hSE.set hmE rfl (by omega)⟩⟩

theorem s_l02Spoil_ok (B : Bs P ρ) (E : F_s_l02Spoil P ρ) {H : List Blk} {s : Nat} (hS : Src H s) :
    CallR P ρ 193 [.pt s 0] H (DrA H s) := by
  have hsl := hS.lt
  refine call_of_q B.fn B.mo E.1 rfl (fun hAr hHp => ?_) (by simp [At.lt, hS.lt])
  refine ⟨_, rfl, ?_⟩
  refine ⟨_, s_l02Draw_ok B E.2.1 (hS.ext Ext.app), ?_⟩
  rintro _ G5 ⟨p, q, f, rfl, hf5, hS5⟩
  refine ⟨_, s_l02Bad_ok B E.2.2 (p := p) (q := q) (f := f) hS5, ?_⟩
  rintro _ G6 ⟨p6, q6, f6, rfl, hf6, hS6⟩
  have hF6 : Fr [s] H G6 := (Ext.app.fr.trans hf5).trans hf6
  have hm6 := hf6.get (hf5.get get_new (by omega)) (by omega)
  refine ⟨_, _, _, hm6, cputs_2, eqBk_rfl, ?_⟩
  exact ⟨rfl, false, _, 522, _, set_same hm6, ⟨rfl, by omega⟩, ⟨_, _, _, rfl, hF6.set (Nat.le_refl _), hS6.set hm6 rfl (by omega)⟩⟩


end Hf
namespace Hf
open Go Classical
variable {P : Program} {ρ : Nat → FuncId}
theorem at_k {H l : List Blk} {i : Nat} : (H ++ l)[H.length + i]? = l[i]? := by
  rw [List.getElem?_append_right (by omega), Nat.add_sub_cancel_left]
theorem ap2 {H : List Blk} {A B : Blk} : H ++ [A] ++ [B] = H ++ [A, B] := by simp
theorem Ext.fr' {s : Nat} {H G G' : List Blk} (h : Ext H G) (f : Fr [s] G G') (hs : H.length ≤ s) : Ext H G' := fun k B e => f k B (by have := lt_of e; simp; omega) (h k B e)
theorem Fr.ext {s : Nat} {H G : List Blk} (h : Fr [s] H G) (hs : H.length ≤ s) : Ext H G := fun k B e => h k B (by have := lt_of e; simp; omega) e
end Hf
namespace Hf
open Go Classical
variable {P : Program} {ρ : Nat → FuncId}
/-- maps in a row -/
def VL (H : List Blk) (a : At) (Ls : List By) : Prop := (a = .sn ∧ Ls = []) ∨ ∃ k r N w, a = .sl k 0 Ls.length Ls.length ∧ H[k]? = some ⟨r, .by [] N w⟩ ∧ Ls.length * 64 ≤ N ∧ ∀ i x, i < Ls.length → x < 64 → w (i * 64 + x) = (Ls.getD i z0) x
theorem VL.len {H : List Blk} {a : At} {Ls : List By} (h : VL H a Ls) : lenA a = some Ls.length := by
  rcases h with ⟨rfl, rfl⟩ | ⟨k, r, N, w, rfl, -⟩ <;> rfl
theorem VL.lt {H : List Blk} {a : At} {Ls : List By} (h : VL H a Ls) : a.lt H.length = true := by
  rcases h with ⟨rfl, rfl⟩ | ⟨k, r, N, w, rfl, hk, -⟩
  · rfl
  · simp [At.lt, lt_of hk]
end Hf
namespace Hf
open Go Classical
variable {P : Program} {ρ : Nat → FuncId}
/-- rows up to i -/
def UmI (p : Int) (f g : By) (i : Nat) (w : By) : Prop := ∀ x, x < 64 → w x = if x / 8 < i then vec 8 p (fun y => bz f (2 + x / 8) * bz g (2 + y)) (x % 8) else 0
theorem UmI.st {p : Int} {f g w w' : By} {i : Nat} (h : UmI p f g i w) (h1 : ∀ x, x < 64 → x / 8 ≠ i → w' x = w x) (h2 : ∀ y, y < 8 → w' (i * 8 + y) = vec 8 p (fun y => bz f (2 + i) * bz g (2 + y)) y) : UmI p f g (i + 1) w' := fun x hx => by
  by_cases e : x / 8 = i
  · rw [if_pos (by omega), e]
    have := h2 (x % 8) (by omega)
    rwa [show i * 8 + x % 8 = x by omega] at this
  · rw [h1 x hx e, h x hx]
    by_cases q : x / 8 < i
    · rw [if_pos q, if_pos (by omega)]
    · rw [if_neg q, if_neg (by omega)]
theorem UmI.all {p : Int} {n : Nat} {f g w : By} (hp : 1 ≤ p) (h : UmI p f g n w) (hn : n ≤ 8) (hf : ∀ i, n ≤ i → i < 8 → bz f (2 + i) = 0) : ∀ x, x < 64 → umF p f g x = w x := fun x hx => by
  rw [h x hx]
  unfold umF
  rw [if_pos hx]
  split
  · rfl
  · unfold vec
    rw [if_pos (by omega), hf (x / 8) (by omega) (by omega)]
    show byt ((0 * bz g (2 + x % 8)) % p) = 0
    rw [Int.zero_mul, Int.zero_emod]; rfl
end Hf
namespace Hf
open Go Classical
variable {P : Program} {ρ : Nat → FuncId}
/-- the law's code, however long -/
def CV (H : List Blk) (a : At) : Prop := a = .sn ∨ ∃ k off len cap r cs fz, a = .sl k off len cap ∧ H[k]? = some ⟨r, .fo cs fz⟩ ∧ len ≤ 9223372036854775807 ∧ ∀ y, y < len → ∃ u : UInt8, cs[off + y]? = some (.int .u8 (u.toNat : Int))
theorem CV.len {H : List Blk} {a : At} (h : CV H a) : ∃ n, lenA a = some n ∧ n ≤ 9223372036854775807 := by
  rcases h with rfl | ⟨k, off, len, cap, r, cs, fz, rfl, -, h, -⟩
  · exact ⟨0, rfl, by omega⟩
  · exact ⟨len, rfl, h⟩
theorem CV.lt {H : List Blk} {a : At} (h : CV H a) : a.lt H.length = true := by
  rcases h with rfl | ⟨k, off, len, cap, r, cs, fz, rfl, h1, -⟩
  · rfl
  · simp [At.lt, lt_of h1]
theorem CV.cb {H : List Blk} {a : At} {n : Nat} (h : CV H a) (hn : lenA a = some n) (h2 : n ≤ 4096) : CB H a := by
  rcases h with rfl | ⟨k, off, len, cap, r, cs, fz, rfl, h1, h3, h4⟩
  · exact .inl rfl
  · have : len = n := by simpa [lenA] using hn
    exact .inr ⟨k, off, len, cap, r, cs, fz, rfl, h1, by omega, h4⟩
theorem eqB_self {n : Nat} {f : By} : eqB n f f = true := eqB_iff.2 fun _ _ => rfl
theorem as1 {H l : List Blk} {B : Blk} : H ++ l ++ [B] = H ++ (l ++ [B]) := List.append_assoc _ _ _
end Hf
namespace Hf
open Go Classical
variable {P : Program} {ρ : Nat → FuncId}
theorem s_l02Any_ok (B : Bs P ρ) (E : F_s_l02Any P ρ) {H : List Blk} {s : Nat} {p q : Int} {f : By} (hS : Src H s) :
    CallR P ρ 422 [.pt s 0, .ag [p, q] 522 f] H (fun u G => ∃ v : By, u = .one (.ag [] 8 v) ∧ Fr [s] H G ∧ Src G s) := by
  have hsl := hS.lt
  refine call_of_q B.fn B.mo E.1 rfl (fun hAr hHp => ?_) (by simp [At.lt, hS.lt])
  refine ⟨_, rfl, ?_⟩
  refine ⟨H.length + 1, by simp, ?_⟩
  rw [ap2]
  refine ⟨_, _, at_k (i := 0), rfl, ?_⟩
  refine ⟨_, _, at_k (i := 0), rfl, ?_⟩
  refine ⟨_, s_l01DrawVector_ok B E.2.1 (hS.ext Ext.app), ?_⟩
  rintro _ G11 ⟨v11, rfl, hf11, hS11⟩
  have hF11 : Fr [s] H G11 := Ext.app.fr.trans hf11
  have hm11 := hf11.get (at_k (i := 1)) (by omega)
  refine ⟨_, rfl, ?_⟩
  refine ⟨_, _, _, get_new, cputs_by (by simp) (by omega), eqBk_rfl, ?_⟩
  rw [app_set0]
  generalize hw : spl (fun _ => 0) (0 - 0) 8 v11 = w
  refine ⟨_, s_l01Next_ok B E.2.2.1 (hS11.ext Ext.app), ?_⟩
  rintro _ G13 ⟨z13, rfl, hz13, hf13, hS13⟩
  have hF13 : Fr [s] H G13 := (hF11.trans Ext.app.fr).trans hf13
  have hm13 := hf13.get (app_old hm11) (by omega)
  have hk13 := hf13.get (get_new (H := G11)) (by have := hS11.lt; omega)
  have hlk := lt_of hm11
  refine ⟨fun h14 => ?_, fun h14 => ?_⟩
  · replace h14 := eq_of_beq h14
    refine ⟨_, s_l01Next_ok B E.2.2.1 hS13, ?_⟩
    rintro _ G16 ⟨z16, rfl, hz16, hf16, hS16⟩
    obtain ⟨x16, rfl⟩ : ∃ x : Nat, z16 = (x : Int) := ⟨z16.toNat, by have := hz16.1; omega⟩
    have hb16 := hz16.2.2 (by omega)
    have hm16 := hf16.get hm13 (by omega)
    have hk16 := hf16.get hk13 (by have := hS11.lt; omega)
    refine ⟨_, rfl, ?_⟩
    refine ⟨_, s_l01Pick_ok B E.2.2.2 (L := [1, 31, 255]) (hS16.ext Ext.app) ⟨false, _, get_new, by simp, rfl⟩ (by simp [At.lt]) (by have := hS16.lt; simp [spB]; omega) (by simp), ?_⟩
    rintro _ G19 ⟨z19, hz19, rfl, hf19, hS19⟩
    have hm19 := hf19.get (app_old hm16) (by omega)
    have hk19 := hf19.get (app_old hk16) (by have := hS11.lt; omega)
    have hF19 : Fr [s] H G19 := ((hF13.trans hf16).trans Ext.app.fr).trans hf19
    refine ⟨x16, _, rfl, by omega, rfl, ?_⟩
    refine ⟨_, _, _, hk19, cput_u (by simp <;> omega) (by omega), eqBk_rfl, ?_⟩
    have hkE := set_same (B := ⟨false, .by [] 8 (upd w (0 + x16 * 1) (byt z19))⟩) hk19
    have hmE := set_other (B := ⟨false, .by [] 8 (upd w (0 + x16 * 1) (byt z19))⟩) hm19 (show G11.length ≠ H.length + 1 by omega)
    have hFE := hF19.set (B := ⟨false, .by [] 8 (upd w (0 + x16 * 1) (byt z19))⟩) (show H.length ≤ G11.length by omega)
    have hSE := hS19.set (B := ⟨false, .by [] 8 (upd w (0 + x16 * 1) (byt z19))⟩) hk19 rfl (by have := hS11.lt; omega)
    refine ⟨_, _, _, _, _, hkE, ⟨by simp, by omega⟩, fun x _ => congrArg _ (Nat.zero_add x).symm, ?_⟩
    refine ⟨_, _, _, hmE, cputs_by (by simp) (by omega), eqBk_rfl, ?_⟩
    exact ⟨rfl, false, [], 8, _, _, set_same hmE, ⟨by simp, by omega⟩, fun x hx => rfl, ⟨_, rfl, hFE.set (by omega), hSE.set hmE rfl (by omega)⟩⟩
  · replace h14 := ne_of_beq_false h14
    have hkE := hk13
    have hmE := hm13
    have hFE := hF13
    have hSE := hS13
    refine ⟨_, _, _, _, _, hkE, ⟨by simp, by omega⟩, fun x _ => congrArg _ (Nat.zero_add x).symm, ?_⟩
    refine ⟨_, _, _, hmE, cputs_by (by simp) (by omega), eqBk_rfl, ?_⟩
    exact ⟨rfl, false, [], 8, _, _, set_same hmE, ⟨by simp, by omega⟩, fun x hx => rfl, ⟨_, rfl, hFE.set (by omega), hSE.set hmE rfl (by omega)⟩⟩

theorem s_l02One_ok (B : Bs P ρ) (E : F_s_l02One P ρ) {H : List Blk} {a : At} (hC : CB H a) :
    CallR P ρ 415 [a] H (fun u G => ∃ (p q : Int) (f v : By), u = .tup [.ag [p, q] 522 f, .ag [] 8 v] ∧ Ext H G) := by
  refine call_of_q B.fn B.mo E.1 rfl (fun hAr hHp => ?_) (by simp only [List.all_cons, List.all_nil, hC.lt]; rfl)
  refine ⟨_, rfl, ?_⟩
  refine ⟨H.length + 1, by simp, ?_⟩
  rw [ap2]
  refine ⟨_, s_l01From_ok B E.2.1 (hC.ext Ext.app), ?_⟩
  rintro _ G7 ⟨rfl, hE7, hS7⟩
  generalize hs : (H ++ [(⟨false, (Zk.by 2 522).bk⟩ : Blk), ⟨false, (Zk.by 0 8).bk⟩]).length = s at hS7
  have hs2 : s = H.length + 2 := by rw [← hs]; simp
  refine ⟨_, s_l02Spoil_ok B E.2.2.1 hS7, ?_⟩
  rintro _ G9 ⟨p, q, f, rfl, hf9, hS9⟩
  have hX9 : Ext H G9 := (Ext.app.trans hE7).fr' hf9 (by omega)
  have hm2 := hf9.get (hE7 _ _ (at_k (i := 0))) (by omega)
  have hm3 := hf9.get (hE7 _ _ (at_k (i := 1))) (by omega)
  have hl9 := hS9.lt
  refine ⟨_, rfl, ?_⟩
  refine ⟨_, _, _, get_new, cputs_2, eqBk_rfl, ?_⟩
  rw [app_set0]
  refine ⟨_, s_l01Next_ok B E.2.2.2.1 (hS9.ext Ext.app), ?_⟩
  rintro _ G11 ⟨z11, rfl, hz11, hf11, hS11⟩
  have hX11 : Ext H G11 := (hX9.trans Ext.app).fr' hf11 (by omega)
  have hm21 := hf11.get (app_old hm2) (by omega)
  have hm31 := hf11.get (app_old hm3) (by omega)
  have hk := hf11.get (get_new (H := G9) (B := ⟨false, .by [p, q] 522 f⟩)) (by omega)
  refine ⟨fun h13 => ?_, fun h13 => ?_⟩
  · replace h13 := eq_of_beq h13
    refine brB_t ?_
    refine ⟨_, _, hk, rfl, ?_⟩
    refine brB_t ?_
    refine ⟨_, s_l01In_ok B E.2.2.2.2.1 (x := q) (a := 1) (b := 8), rfl, ?_⟩
    refine brB_t ?_
    refine ⟨fun h17 => ?_, fun h17 => ?_⟩
    · skip
      refine .inl ⟨_, _, _, _, hk, ⟨rfl, by omega⟩, ?_⟩
      refine ⟨_, _, hk, rfl, ?_⟩
      refine ⟨_, s_l01Next_ok B E.2.2.2.1 hS11, ?_⟩
      rintro _ G22 ⟨z22, rfl, hz22, hf22, hS22⟩
      refine ⟨⟨kept1 hk (hf22.get hk (by omega)), trivial⟩, ?_⟩
      obtain ⟨x22, rfl⟩ : ∃ x : Nat, z22 = (x : Int) := ⟨z22.toNat, by have := hz22.1; omega⟩
      have hX22 : Ext H G22 := hX11.fr' hf22 (by omega)
      have hm22 := hf22.get hm21 (by omega)
      have hm32 := hf22.get hm31 (by omega)
      refine ⟨_, s_l01Basis_ok B E.2.2.2.2.2.1 (i := x22) (by have h := of_decide_eq_true h17; have := hz22.2.2 (by omega); omega), rfl, ?_⟩
      refine ⟨_, _, _, hm22, cputs_2, eqBk_rfl, ?_⟩
      refine ⟨_, _, _, set_other hm32 (by omega), cputs_by (by simp) (by omega), eqBk_rfl, ?_⟩
      exact ⟨rfl, false, _, 522, _, set_other (set_same hm22) (by omega), ⟨rfl, by omega⟩, false, [], 8, _, _, set_same (set_other hm32 (by omega)), ⟨by simp, by omega⟩, fun x hx => rfl, ⟨_, _, _, _, rfl, (hX22.set (by omega)).set (by omega)⟩⟩
    · skip
      refine .inl ⟨_, _, _, _, hk, ⟨rfl, by omega⟩, ?_⟩
      refine .inl ⟨_, _, _, _, hk, ⟨rfl, by omega⟩, ?_⟩
      refine ⟨_, s_l02Any_ok B E.2.2.2.2.2.2 (p := p) (q := q) (f := f) hS11, ?_⟩
      rintro _ G22 ⟨v27, rfl, hf27, hS27⟩
      refine ⟨⟨kept1 hk (hf27.get hk (by omega)), trivial⟩, ?_⟩
      have hX22 : Ext H G22 := hX11.fr' hf27 (by omega)
      have hm22 := hf27.get hm21 (by omega)
      have hm32 := hf27.get hm31 (by omega)
      refine ⟨_, _, _, hm22, cputs_2, eqBk_rfl, ?_⟩
      refine ⟨_, _, _, set_other hm32 (by omega), cputs_by (by simp) (by omega), eqBk_rfl, ?_⟩
      exact ⟨rfl, false, _, 522, _, set_other (set_same hm22) (by omega), ⟨rfl, by omega⟩, false, [], 8, _, _, set_same (set_other hm32 (by omega)), ⟨by simp, by omega⟩, fun x hx => rfl, ⟨_, _, _, _, rfl, (hX22.set (by omega)).set (by omega)⟩⟩
  · replace h13 := ne_of_beq_false h13
    refine brB_f ?_
    refine brB_f ?_
    refine brB_f ?_
    refine brB_f ?_
    refine .inl ⟨_, _, _, _, hk, ⟨rfl, by omega⟩, ?_⟩
    refine .inl ⟨_, _, _, _, hk, ⟨rfl, by omega⟩, ?_⟩
    refine ⟨_, s_l02Any_ok B E.2.2.2.2.2.2 (p := p) (q := q) (f := f) hS11, ?_⟩
    rintro _ G22 ⟨v27, rfl, hf27, hS27⟩
    refine ⟨⟨kept1 hk (hf27.get hk (by omega)), trivial⟩, ?_⟩
    have hX22 : Ext H G22 := hX11.fr' hf27 (by omega)
    have hm22 := hf27.get hm21 (by omega)
    have hm32 := hf27.get hm31 (by omega)
    refine ⟨_, _, _, hm22, cputs_2, eqBk_rfl, ?_⟩
    refine ⟨_, _, _, set_other hm32 (by omega), cputs_by (by simp) (by omega), eqBk_rfl, ?_⟩
    exact ⟨rfl, false, _, 522, _, set_other (set_same hm22) (by omega), ⟨rfl, by omega⟩, false, [], 8, _, _, set_same (set_other hm32 (by omega)), ⟨by simp, by omega⟩, fun x hx => rfl, ⟨_, _, _, _, rfl, (hX22.set (by omega)).set (by omega)⟩⟩

theorem s_DrawCoproductIn_ok (B : Bs P ρ) (E : F_s_DrawCoproductIn P ρ) {H : List Blk} {a : At} (hC : CB H a) :
    CallR P ρ 460 [a] H (fun u G => ∃ (p q : Int) (f v : By), u = .tup [.ag [p, q] 522 f, .ag [] 8 v] ∧ Ext H G) := by
  refine call_of_q B.fn B.mo E.1 rfl (fun hAr hHp => ?_) (by simp only [List.all_cons, List.all_nil, hC.lt]; rfl)
  refine ⟨_, rfl, ?_⟩
  refine ⟨H.length + 1, by simp, ?_⟩
  rw [ap2]
  refine ⟨_, s_l02One_ok B E.2 (hC.ext Ext.app), ?_⟩
  rintro _ G5 ⟨p, q, f, v, rfl, hE5⟩
  refine ⟨_, _, _, hE5 _ _ (at_k (i := 0)), cputs_2, eqBk_rfl, ?_⟩
  refine ⟨_, _, _, set_other (hE5 _ _ (at_k (i := 1))) (by omega), cputs_by (by simp) (by omega), eqBk_rfl, ?_⟩
  exact ⟨rfl, false, _, 522, _, set_other (set_same (hE5 _ _ (at_k (i := 0)))) (by omega), ⟨rfl, by omega⟩, false, [], 8, _, _, set_same (set_other (hE5 _ _ (at_k (i := 1))) (by omega)), ⟨by simp, by omega⟩, fun x hx => rfl, ⟨_, _, _, _, rfl, ((Ext.app.trans hE5).set (by omega)).set (by omega)⟩⟩

theorem s_DrawIsCoalgebra_ok (B : Bs P ρ) (E : F_s_DrawIsCoalgebra P ρ) {H : List Blk} {a : At} (hC : CB H a) :
    CallR P ρ 455 [a] H (fun u G => ∃ (p q : Int) (f : By), u = .one (.ag [p, q] 522 f) ∧ Ext H G) := by
  refine call_of_q B.fn B.mo E.1 rfl (fun hAr hHp => ?_) (by simp only [List.all_cons, List.all_nil, hC.lt]; rfl)
  refine ⟨_, rfl, ?_⟩
  refine ⟨_, s_l01From_ok B E.2.1 (hC.ext Ext.app), ?_⟩
  rintro _ G4 ⟨rfl, hE4, hS4⟩
  have hl4 : (H ++ [(⟨false, (Zk.by 2 522).bk⟩ : Blk)]).length = H.length + 1 := by simp
  refine ⟨_, s_l02Spoil_ok B E.2.2 hS4, ?_⟩
  rintro _ G5 ⟨p, q, f, rfl, hf5, hS5⟩
  have hX : Ext H G5 := (Ext.app.trans hE4).fr' hf5 (by omega)
  have hm := hf5.get (hE4 _ _ get_new) (by omega)
  refine ⟨_, _, _, hm, cputs_2, eqBk_rfl, ?_⟩
  exact ⟨rfl, false, _, 522, _, set_same hm, ⟨rfl, by omega⟩, ⟨_, _, _, rfl, hX.set (by omega)⟩⟩

theorem s_DrawDualCoalgebra_ok (B : Bs P ρ) (E : F_s_DrawDualCoalgebra P ρ) {H : List Blk} {a : At} (hC : CB H a) :
    CallR P ρ 464 [a] H (fun u G => ∃ (p q : Int) (f : By), u = .one (.ag [p, q] 522 f) ∧ Ext H G) := by
  refine call_of_q B.fn B.mo E.1 rfl (fun hAr hHp => ?_) (by simp only [List.all_cons, List.all_nil, hC.lt]; rfl)
  refine ⟨_, rfl, ?_⟩
  refine ⟨_, s_l01From_ok B E.2.1 (hC.ext Ext.app), ?_⟩
  rintro _ G4 ⟨rfl, hE4, hS4⟩
  have hl4 : (H ++ [(⟨false, (Zk.by 2 522).bk⟩ : Blk)]).length = H.length + 1 := by simp
  refine ⟨_, s_l01Spoil_ok B E.2.2 hS4, ?_⟩
  rintro _ G5 ⟨p, q, f, rfl, hf5, hS5⟩
  have hX : Ext H G5 := (Ext.app.trans hE4).fr' hf5 (by omega)
  have hm := hf5.get (hE4 _ _ get_new) (by omega)
  refine ⟨_, _, _, hm, cputs_2, eqBk_rfl, ?_⟩
  exact ⟨rfl, false, _, 522, _, set_same hm, ⟨rfl, by omega⟩, ⟨_, _, _, rfl, hX.set (by omega)⟩⟩

theorem s_IsCoalgebra_ok (B : Bs P ρ) (E : F_s_IsCoalgebra P ρ) {p n : Int} {f : By} :
    CallOK P ρ 456 [.ag [p, n] 522 f] [] (.one (.b (decide (Cog p n f)))) [] := by
  refine (CallR.pure (call_of_q B.fn B.mo E.1 rfl (fun _ _ => ?_) rfl) rfl).ok
  refine ⟨_, rfl, ?_⟩
  refine .inl ⟨_, _, _, _, rfl, ⟨rfl, by omega⟩, ?_⟩
  refine ⟨_, s_l02Is_ok B E.2 (p := p) (n := n) (f := f), rfl, ?_⟩
  exact ⟨rfl, rfl, Ext.nil⟩


end Hf
namespace Hf
open Go Classical
variable {P : Program} {ρ : Nat → FuncId}
/-- the places of a number -/
def dgQ (n a : Nat) : List Int := [((a / (n * n * n) : Nat) : Int), ((a / (n * n) % n : Nat) : Int), ((a / n % n : Nat) : Int), ((a % n : Nat) : Int)]
def CoF (p : Int) (n : Nat) (f : By) : Prop := ∃ t, t < n * n * n * n ∧ ¬ CoaT p n f t
noncomputable def ffQ (p : Int) (n : Nat) (f : By) : List Int := if h : CoF p n f then dgQ n (Classical.choose (least h)) else []
theorem ffQ_f {p : Int} {n : Nat} {f : By} (h : CoF p n f) : ∃ a, a < n * n * n * n ∧ ¬ CoaT p n f a ∧ (∀ t, t < a → CoaT p n f t) ∧ ffQ p n f = dgQ n a := by
  have q := Classical.choose_spec (least h)
  refine ⟨_, q.1.1, q.1.2, fun t ht => Classical.byContradiction fun e => q.2 t ht ⟨by have := q.1.1; omega, e⟩, ?_⟩
  unfold ffQ; rw [dif_pos h]
theorem ffQ_t {p : Int} {n : Nat} {f : By} (h : ¬ CoF p n f) : ffQ p n f = [] := by unfold ffQ; rw [dif_neg h]
theorem CoF.no {p : Int} {n : Nat} {f : By} (h : ¬ CoF p n f) (t : Nat) (ht : t < n * n * n * n) : CoaT p n f t := Classical.byContradiction fun e => h ⟨t, ht, e⟩
theorem s_l02Fault_r (B : Bs P ρ) (E : E_s_l02Fault P ρ) {H : List Blk} {n : Nat} {p : Int} {f : By} (hp : 1 ≤ p) (hp2 : p ≤ 256) (hn : n ≤ 8) :
    CallR P ρ 99 [.ag [p, (n : Int)] 522 f] H fun u G => ∃ b, u = .tup [b, .b (decide (CoF p n f))] ∧ Ext H G ∧ VI G b (ffQ p n f) := by
  by_cases h : CoF p n f
  · obtain ⟨a, h1, h2, h3, h4⟩ := ffQ_f h
    refine ((s_l02Fault_f_ok B E hp hp2 hn h1 h2 h3).emb (v' := .tup [.sl H.length 0 4 4, .b true]) (H := H) [] rfl trivial rfl rfl rfl).r.mono ?_
    rintro _ _ ⟨rfl, rfl⟩
    refine ⟨_, by rw [decide_eq_true h], Ext.app, ?_⟩
    rw [h4]
    exact ⟨false, _, get_new, by simp, rfl⟩
  · refine (CallOK.at0 (H := H) (s_l02Fault_t_ok B E hp hp2 hn (CoF.no h)) rfl rfl).mono ?_
    rintro _ _ ⟨rfl, rfl⟩
    refine ⟨_, by rw [decide_eq_false h], Ext.refl, ?_⟩
    rw [ffQ_t h]; exact rfl
theorem i_Coalgebra_fault_r (B : Bs P ρ) (E : E_i_Coalgebra_fault P ρ) {H : List Blk} {k : Nat} {r : Bool} {n : Nat} {p : Int} {f : By} (hk : H[k]? = some ⟨r, .by [p, (n : Int)] 522 f⟩) (hp : 1 ≤ p) (hp2 : p ≤ 256) (hn : n ≤ 8) :
    CallR P ρ 108 [.pt k 0] H fun u G => ∃ b, u = .one b ∧ (if CoF p n f then ∃ o l c, b = .sl H.length o l c else b = .sn) ∧ Ext H G ∧ VI G b (ffQ p n f) := by
  by_cases h : CoF p n f
  · obtain ⟨a, h1, h2, h3, h4⟩ := ffQ_f h
    refine ((i_Coalgebra_fault_f_ok B E hp hp2 hn h1 h2 h3).emb (v' := .one (.sl H.length 0 4 4)) (H := H) (H' := H ++ [⟨false, .rw ((dgQ n a).map (At.i .i64))⟩]) [k] rfl ⟨⟨r, hk, fun h => by cases h⟩, trivial⟩ rfl rfl (by simp [back]; rfl)).r.mono ?_
    rintro _ _ ⟨rfl, rfl⟩
    refine ⟨_, rfl, by rw [if_pos h]; exact ⟨_, _, _, rfl⟩, Ext.app, ?_⟩
    rw [h4]
    exact ⟨false, _, get_new, by simp [dgQ], rfl⟩
  · refine (CallOK.at1 (args := [.pt k 0]) hk (i_Coalgebra_fault_t_ok B E hp hp2 hn (CoF.no h)) rfl rfl).mono ?_
    rintro _ _ ⟨rfl, rfl⟩
    refine ⟨_, rfl, by rw [if_neg h], Ext.refl, ?_⟩
    rw [ffQ_t h]; exact rfl
noncomputable def ffC (p n : Int) (f : By) : Int := if CShp p n f then (if CoF p n.toNat f then 0 else 4) else 1
noncomputable def ffL (p n : Int) (f : By) : List Int := if CShp p n f then ffQ p n.toNat f else []
/-- the answer of FirstCoFault -/
def FcV (H : List Blk) (p n : Int) (f : By) (u : Sv) (G : List Blk) : Prop := ∃ b, u = .tup [b, .i .i64 (ffC p n f)] ∧ Ext H G ∧ VI G b (ffL p n f)
theorem FcV.s {H G : List Blk} {p n : Int} {f : By} {u : Sv} (h : ¬ CShp p n f) (hu : u = .tup [.sn, .i .i64 1]) (hG : Ext H G) : FcV H p n f u G :=
  ⟨.sn, by rw [hu]; unfold ffC; rw [if_neg h], hG, by unfold ffL; rw [if_neg h]; exact rfl⟩
theorem s_FirstCoFault_ok (B : Bs P ρ) (E : F_s_FirstCoFault P ρ) {H : List Blk} {p n : Int} {f : By} :
    CallR P ρ 458 [.ag [p, n] 522 f] H (FcV H p n f) := by
  refine call_of_q B.fn B.mo E.1 rfl (fun hAr hHp => ?_) rfl
  refine ⟨_, rfl, ?_⟩
  refine .inl ⟨_, _, _, _, get_new, ⟨rfl, by omega⟩, ?_⟩
  refine ⟨_, s_l02Shape_ok B E.2.1 (p := p) (n := n) (f := f), rfl, ?_⟩
  refine ⟨fun h8 => ?_, fun h8 => ?_⟩
  · skip
    have hS : ¬ CShp p n f := fun z => by rw [decide_eq_true z] at h8; cases h8
    exact ⟨rfl, FcV.s hS rfl Ext.app⟩
  · skip
    have hS : CShp p n f := by simpa using h8
    obtain ⟨n, rfl⟩ : ∃ k : Nat, n = (k : Int) := ⟨n.toNat, by have := hS.1.2.1; omega⟩
    have hb := AShp.p1 hS
    refine .inl ⟨_, _, _, _, get_new, ⟨rfl, by omega⟩, ?_⟩
    refine ⟨_, s_l02Fault_r B E.2.2 (p := p) (n := n) (f := f) (by omega) (by omega) (by omega), ?_⟩
    rintro _ G11 ⟨b, rfl, hE11, hV11⟩
    refine ⟨fun h15 => ?_, fun h15 => ?_⟩
    · skip
      have hq : ¬ CoF p n f := fun z => by rw [decide_eq_true z] at h15; cases h15
      exact ⟨rfl, .sn, by unfold ffC; rw [if_pos hS, if_neg (show ¬ CoF p (n : Int).toNat f from hq)]; rfl, Ext.app.trans hE11, by unfold ffL; rw [if_pos hS, show (n : Int).toNat = n from rfl, ffQ_t hq]; exact rfl⟩
    · skip
      have hq : CoF p n f := by simpa using h15
      exact ⟨rfl, b, by unfold ffC; rw [if_pos hS, if_pos (show CoF p (n : Int).toNat f from hq)]; rfl, Ext.app.trans hE11, by unfold ffL; rw [if_pos hS]; exact hV11⟩

theorem i_FirstCoFault_f_ok (B : Bs P ρ) (E : F_i_FirstCoFault P ρ) {H : List Blk} {p n : Int} {f : By} (hq : CoF p n.toNat f) :
    CallR P ρ 459 [.ag [p, n] 522 f] H (FcV H p n f) := by
  refine call_of_q B.fn B.mo E.1 rfl (fun hAr hHp => ?_) rfl
  refine ⟨_, rfl, ?_⟩
  refine ⟨_, CallOK.at1 get_new (i_Coalgebra_isShaped_ok B E.2.1 (p := p) (n := n) (f := f)) rfl rfl, ?_⟩
  rintro _ _ ⟨rfl, rfl⟩
  refine ⟨fun h6 => ?_, fun h6 => ?_⟩
  · skip
    have hS : ¬ CShp p n f := fun z => by rw [decide_eq_true (show Shp p n ∧ Vec p n f 2 ∧ Tab p n f 10 from z)] at h6; cases h6
    exact ⟨rfl, FcV.s hS rfl Ext.app⟩
  · skip
    have hS : CShp p n f := (show Shp p n ∧ Vec p n f 2 ∧ Tab p n f 10 by simpa using h6)
    obtain ⟨n, rfl⟩ : ∃ k : Nat, n = (k : Int) := ⟨n.toNat, by have := hS.1.2.1; omega⟩
    have hb := AShp.p1 hS
    refine ⟨_, i_Coalgebra_fault_r B E.2.2.1 (p := p) (n := n) (f := f) get_new (by omega) (by omega) (by omega), ?_⟩
    rintro _ G7 ⟨b, rfl, hb7, hE7, hV7⟩
    rw [if_pos (show CoF p n f from hq)] at hb7
    obtain ⟨o7, l7, c7, rfl⟩ := hb7
    refine ⟨_, i_unless_ok B E.2.2.2 (b := true) (c := 4), rfl, ?_⟩
    refine ⟨rfl, _, ?_, Ext.app.trans hE7, by unfold ffL; rw [if_pos hS]; exact hV7⟩
    unfold ffC; rw [if_pos hS, if_pos hq]; rfl

theorem i_FirstCoFault_t_ok (B : Bs P ρ) (E : F_i_FirstCoFault P ρ) {H : List Blk} {p n : Int} {f : By} (hq : ¬ CoF p n.toNat f) :
    CallR P ρ 459 [.ag [p, n] 522 f] H (FcV H p n f) := by
  refine call_of_q B.fn B.mo E.1 rfl (fun hAr hHp => ?_) rfl
  refine ⟨_, rfl, ?_⟩
  refine ⟨_, CallOK.at1 get_new (i_Coalgebra_isShaped_ok B E.2.1 (p := p) (n := n) (f := f)) rfl rfl, ?_⟩
  rintro _ _ ⟨rfl, rfl⟩
  refine ⟨fun h6 => ?_, fun h6 => ?_⟩
  · skip
    have hS : ¬ CShp p n f := fun z => by rw [decide_eq_true (show Shp p n ∧ Vec p n f 2 ∧ Tab p n f 10 from z)] at h6; cases h6
    exact ⟨rfl, FcV.s hS rfl Ext.app⟩
  · skip
    have hS : CShp p n f := (show Shp p n ∧ Vec p n f 2 ∧ Tab p n f 10 by simpa using h6)
    obtain ⟨n, rfl⟩ : ∃ k : Nat, n = (k : Int) := ⟨n.toNat, by have := hS.1.2.1; omega⟩
    have hb := AShp.p1 hS
    refine ⟨_, i_Coalgebra_fault_r B E.2.2.1 (p := p) (n := n) (f := f) get_new (by omega) (by omega) (by omega), ?_⟩
    rintro _ G7 ⟨b, rfl, hb7, hE7, hV7⟩
    rw [if_neg (show ¬ CoF p n f from hq)] at hb7
    subst hb7
    refine ⟨_, i_unless_ok B E.2.2.2 (b := false) (c := 4), rfl, ?_⟩
    refine ⟨rfl, _, ?_, Ext.app.trans hE7, by unfold ffL; rw [if_pos hS]; exact hV7⟩
    unfold ffC; rw [if_pos hS, if_neg hq]; rfl

theorem i_FirstCoFault_ok (B : Bs P ρ) (E : F_i_FirstCoFault P ρ) {H : List Blk} {p n : Int} {f : By} : CallR P ρ 459 [.ag [p, n] 522 f] H (FcV H p n f) := by
  by_cases hq : CoF p n.toNat f
  · exact i_FirstCoFault_f_ok B E hq
  · exact i_FirstCoFault_t_ok B E hq
theorem l_likeInts_ok (B : Bs P ρ) (E : F_l_likeInts P ρ) {H : List Blk} {a b : At} {L : List Int} (hA : VI H a L) (hB : VI H b L) (hla : a.lt H.length = true) (hlb : b.lt H.length = true) (hl : L.length ≤ 100) :
    CallR P ρ 452 [a, b] H (fun u G => u = .one (.b true) ∧ G = H) := by
  refine call_of_q B.fn B.mo E rfl (fun hAr hHp => ?_) (by simp only [List.all_cons, List.all_nil, hla, hlb]; rfl)
  refine ⟨_, (hA).len, ?_⟩
  refine ⟨_, (hB).len, ?_⟩
  refine ⟨fun h10 => ?_, fun h10 => ?_⟩
  · replace h10 := bne_t h10
    exact absurd rfl h10
  · replace h10 := bne_f h10
    refine ⟨Unit, (fun a0 a1 (i0 : Nat) (x0 : Unit) => [(0, a0), (1, a1), (5, .one (.i .i64 ((i0 : Nat) : Int)))]) _ _ , fun (i0 : Nat) (x0 : Unit) (G0 : List Blk) => (G0 = H), L.length, ⟨(), rfl, ⟨rfl, rfl, rfl, trivial⟩⟩, ?_⟩
    rintro i0 _ G0 hi0 rfl
    refine ⟨_, (hA).len, ?_⟩
    refine ⟨fun h14 => ?_, fun h14 => ?_⟩
    · replace h14 := of_decide_eq_true h14
      obtain ⟨k19, o19, n19, c19, q19, ea19, hl19, hq19, r19, l19, hk19, hi19⟩ := VI.at (hA) i0 (by omega)
      refine ⟨k19, o19, n19, c19, i0, q19, ea19, rfl, hl19, hq19, ?_⟩
      refine ⟨_, _, hk19, hi19, ?_⟩
      obtain ⟨k23, o23, n23, c23, q23, ea23, hl23, hq23, r23, l23, hk23, hi23⟩ := VI.at (hB) i0 (by omega)
      refine ⟨k23, o23, n23, c23, i0, q23, ea23, rfl, hl23, hq23, ?_⟩
      refine ⟨_, _, hk23, hi23, ?_⟩
      refine ⟨fun h25 => ?_, fun h25 => ?_⟩
      · replace h25 := bne_t h25
        exact absurd rfl h25
      · replace h25 := bne_f h25
        refine ⟨((i0 + 1 : Nat) : Int), w64_id _ (by omega) (by omega), ?_⟩
        exact ⟨by omega, (), rfl, ⟨rfl, rfl, rfl, trivial⟩⟩
    · replace h14 := of_decide_eq_false h14
      have e0 : L.length = i0 := by omega
      subst e0
      exact ⟨rfl, rfl, rfl⟩

set_option maxHeartbeats 2000000 in
theorem s_DrawFirstCoFault_ok (B : Bs P ρ) (E : F_s_DrawFirstCoFault P ρ) {H : List Blk} {a : At} (hC : CB H a) :
    CallR P ρ 457 [a] H (fun u G => ∃ (p q : Int) (f : By), u = .one (.ag [p, q] 522 f) ∧ Ext H G) := by
  refine call_of_q B.fn B.mo E.1 rfl (fun hAr hHp => ?_) (by simp only [List.all_cons, List.all_nil, hC.lt]; rfl)
  refine ⟨_, rfl, ?_⟩
  refine ⟨_, s_l01From_ok B E.2.1 (hC.ext Ext.app), ?_⟩
  rintro _ G6 ⟨rfl, hE6, hS6⟩
  generalize hs : (H ++ [(⟨false, (Zk.by 2 522).bk⟩ : Blk)]).length = s at hS6
  have hs2 : s = H.length + 1 := by rw [← hs]; simp
  refine ⟨_, s_l02Spoil_ok B E.2.2.1 hS6, ?_⟩
  rintro _ G8 ⟨p, q, f, rfl, hf8, hS8⟩
  have hX8 : Ext H G8 := (Ext.app.trans hE6).fr' hf8 (by omega)
  have hm8 := hf8.get (hE6 _ _ get_new) (by omega)
  have hl8 := hS8.lt
  refine ⟨_, rfl, ?_⟩
  refine ⟨_, _, _, get_new, cputs_2, eqBk_rfl, ?_⟩
  rw [app_set0]
  refine ⟨_, s_l01Next_ok B E.2.2.2.1 (hS8.ext Ext.app), ?_⟩
  rintro _ G10 ⟨z10, rfl, hz10, hf10, hS10⟩
  have hX10 : Ext H G10 := (hX8.trans Ext.app).fr' hf10 (by omega)
  have hm10 := hf10.get (app_old hm8) (by omega)
  have hk := hf10.get (get_new (H := G8) (B := ⟨false, .by [p, q] 522 f⟩)) (by omega)
  refine ⟨fun h12 => ?_, fun h12 => ?_⟩
  · replace h12 := eq_of_beq h12
    refine .inl ⟨_, _, _, _, hk, ⟨rfl, by omega⟩, ?_⟩
    refine brB_t ?_
    refine ⟨_, s_l02Is_ok B E.2.2.2.2 (p := p) (n := q) (f := f), rfl, ?_⟩
    refine brB_t ?_
    refine ⟨fun h15 => ?_, fun h15 => ?_⟩
    · skip
      have hCg : Cog p q f := of_decide_eq_true h15
      have hq1 := hCg.1.1.2
      refine ⟨_, _, hk, rfl, ?_⟩
      refine ⟨_, _, hk, rfl, ?_⟩
      refine ⟨_, _, hk, rfl, ?_⟩
      refine ⟨_, _, hk, rfl, ?_⟩
      refine ⟨_, s_l01Next_ok B E.2.2.2.1 hS10, ?_⟩
      rintro _ G19 ⟨z19, rfl, hz19, hf19, hS19⟩
      obtain ⟨x19, rfl⟩ : ∃ x : Nat, z19 = (x : Int) := ⟨z19.toNat, by have := hz19.1; omega⟩
      have hb19 := hz19.2.2 (by omega)
      have hk19 := hf19.get hk (by omega)
      refine ⟨⟨kept1 hk hk19, kept1 hk hk19, kept1 hk hk19, trivial⟩, ?_⟩
      refine ⟨x19, _, rfl, by omega, rfl, ?_⟩
      refine ⟨_, s_l01Next_ok B E.2.2.2.1 hS19, ?_⟩
      rintro _ G23 ⟨z23, rfl, hz23, hf23, hS23⟩
      obtain ⟨x23, rfl⟩ : ∃ x : Nat, z23 = (x : Int) := ⟨z23.toNat, by have := hz23.1; omega⟩
      have hb23 := hz23.2.2 (by omega)
      have hk23 := hf23.get hk19 (by omega)
      refine ⟨⟨kept1 hk19 hk23, kept1 hk19 hk23, kept1 hk19 hk23, trivial⟩, ?_⟩
      refine ⟨x23, _, rfl, by omega, rfl, ?_⟩
      refine ⟨_, s_l01Next_ok B E.2.2.2.1 hS23, ?_⟩
      rintro _ G27 ⟨z27, rfl, hz27, hf27, hS27⟩
      obtain ⟨x27, rfl⟩ : ∃ x : Nat, z27 = (x : Int) := ⟨z27.toNat, by have := hz27.1; omega⟩
      have hb27 := hz27.2.2 (by omega)
      have hk27 := hf27.get hk23 (by omega)
      refine ⟨⟨kept1 hk23 hk27, kept1 hk23 hk27, kept1 hk23 hk27, trivial⟩, ?_⟩
      refine ⟨_, s_l01Next_ok B E.2.2.2.1 hS27, ?_⟩
      rintro _ G31 ⟨z31, rfl, hz31, hf31, hS31⟩
      have hk31 := hf31.get hk27 (by omega)
      refine ⟨x27, _, rfl, by omega, rfl, ?_⟩
      refine ⟨_, _, .by [p, q] 522 (upd f (0 + 10 + x19 * 64 + x23 * 8 + x27 * 1) (byt z31)), hk31, cput_u (by simp <;> omega) (by omega), eqBk_rfl, ?_⟩
      have hkE := set_same (B := ⟨false, .by [p, q] 522 (upd f (0 + 10 + x19 * 64 + x23 * 8 + x27 * 1) (byt z31))⟩) hk31
      have hmE := set_other (B := ⟨false, .by [p, q] 522 (upd f (0 + 10 + x19 * 64 + x23 * 8 + x27 * 1) (byt z31))⟩) (hf31.get (hf27.get (hf23.get (hf19.get hm10 (by omega)) (by omega)) (by omega)) (by omega)) (show G8.length ≠ H.length by omega)
      have hXE := ((((hX10.fr' hf19 (by omega)).fr' hf23 (by omega)).fr' hf27 (by omega)).fr' hf31 (by omega)).set (B := ⟨false, .by [p, q] 522 (upd f (0 + 10 + x19 * 64 + x23 * 8 + x27 * 1) (byt z31))⟩) (show H.length ≤ G8.length by omega)
      refine .inl ⟨_, _, _, _, hkE, ⟨rfl, by omega⟩, ?_⟩
      refine ⟨_, _, _, hmE, cputs_2, eqBk_rfl, ?_⟩
      exact ⟨rfl, false, _, 522, _, set_same hmE, ⟨rfl, by omega⟩, ⟨_, _, _, rfl, hXE.set (by omega)⟩⟩
    · skip
      have hkE := hk
      have hmE := hm10
      have hXE := hX10
      refine .inl ⟨_, _, _, _, hkE, ⟨rfl, by omega⟩, ?_⟩
      refine ⟨_, _, _, hmE, cputs_2, eqBk_rfl, ?_⟩
      exact ⟨rfl, false, _, 522, _, set_same hmE, ⟨rfl, by omega⟩, ⟨_, _, _, rfl, hXE.set (by omega)⟩⟩
  · replace h12 := ne_of_beq_false h12
    refine brB_f ?_
    refine brB_f ?_
    refine brB_f ?_
    have hkE := hk
    have hmE := hm10
    have hXE := hX10
    refine .inl ⟨_, _, _, _, hkE, ⟨rfl, by omega⟩, ?_⟩
    refine ⟨_, _, _, hmE, cputs_2, eqBk_rfl, ?_⟩
    exact ⟨rfl, false, _, 522, _, set_same hmE, ⟨rfl, by omega⟩, ⟨_, _, _, rfl, hXE.set (by omega)⟩⟩


end Hf
namespace Hf
open Go Classical
variable {P : Program} {ρ : Nat → FuncId}
theorem oc_eqv {q r : Prop} {c : Int} (h : q ↔ r) : oc q c = oc r c := by rw [propext h]
/-- a coalgebra and vectors of it -/
def cgQ (p n : Int) (f : By) (L : List By) : Prop := Cog p n f ∧ ∀ v ∈ L, Vec p n v 0
def cpR (p : Int) (f v : By) (m j : Nat) : By := vec 8 p fun y => sm m fun i => bz v i * bz f (10 + i * 64 + j * 8 + y)
/-- the coproduct -/
def cpF (p : Int) (m : Nat) (f v : By) : By := fun x => if x < 64 then cpR p f v m (x / 8) (x % 8) else 0
def CpI (p : Int) (f v : By) (i j : Nat) (w : By) : Prop := ∀ x, x < 64 → w x = cpR p f v (if x / 8 < j then i + 1 else i) (x / 8) (x % 8)
theorem CpI.z {p : Int} {f v w : By} (h : ∀ x, x < 64 → w x = 0) : CpI p f v 0 0 w := fun x hx => by
  rw [h x hx, if_neg (Nat.not_lt_zero _)]
  unfold cpR vec
  rw [if_pos (by omega)]
  show 0 = byt (0 % p)
  rw [Int.zero_emod]; rfl
theorem CpI.cur {p : Int} {f v w : By} {i j : Nat} (h : CpI p f v i j w) (hj : j < 8) {y : Nat} (hy : y < 8) : w (j * 8 + y) = cpR p f v i j y := by
  rw [h _ (by omega), if_neg (by omega), show (j * 8 + y) / 8 = j by omega, show (j * 8 + y) % 8 = y by omega]
theorem CpI.st {p : Int} {f v w w' : By} {i j : Nat} (h : CpI p f v i j w) (h1 : ∀ x, x < 64 → x / 8 ≠ j → w' x = w x) (h2 : ∀ y, y < 8 → w' (j * 8 + y) = cpR p f v (i + 1) j y) : CpI p f v i (j + 1) w' := fun x hx => by
  by_cases e : x / 8 = j
  · rw [if_pos (by omega), e]
    have := h2 (x % 8) (by omega)
    rwa [show j * 8 + x % 8 = x by omega] at this
  · rw [h1 x hx e, h x hx]
    by_cases q : x / 8 < j
    · rw [if_pos q, if_pos (by omega)]
    · rw [if_neg q, if_neg (by omega)]
theorem CpI.nx {p : Int} {f v w : By} {i n : Nat} (h : CpI p f v i n w) (hz : ∀ j y, n ≤ j → j < 8 → y < 8 → bz f (10 + i * 64 + j * 8 + y) = 0) : CpI p f v (i + 1) 0 w := fun x hx => by
  rw [h x hx, if_neg (Nat.not_lt_zero _)]
  by_cases q : x / 8 < n
  · rw [if_pos q]
  · rw [if_neg q]
    unfold cpR vec
    rw [if_pos (by omega), if_pos (by omega)]
    show byt (_ % p) = byt ((sm i _ + bz v i * bz f (10 + i * 64 + x / 8 * 8 + x % 8)) % p)
    rw [hz _ _ (by omega) (by omega) (by omega), Int.mul_zero, Int.add_zero]
theorem cpR_k {p : Int} {f v : By} {m j : Nat} (hp : 1 ≤ p) (hp2 : p ≤ 256) : vec 8 p (fun y => bz (cpR p f v m j) y + bz v m * bz (sh f (10 + m * 64 + j * 8)) y) = cpR p f v (m + 1) j :=
  vec_congr fun y hy => cg_add (cg_vec hp hp2 hy) cg.rfl'
theorem cpF_of {p : Int} {f v w : By} {m : Nat} (h : CpI p f v m 0 w) : ∀ x, x < 64 → cpF p m f v x = w x := fun x hx => by
  rw [h x hx, if_neg (Nat.not_lt_zero _)]; unfold cpF; rw [if_pos hx]
theorem cpF_8 {p : Int} {n : Nat} {f v : By} (hn : n ≤ 8) (hv : Vec p n v 0) : cpF p 8 f v = cpF p n f v := by
  funext x
  unfold cpF cpR
  split
  · refine congrFun (congrArg _ (funext fun y => sm_8n hn fun i h1 h2 => ?_)) _
    have := (hv i h2).2 (by omega)
    rw [Nat.zero_add] at this
    rw [this, Int.zero_mul]
  · rfl
theorem Cog.z {p : Int} {n : Nat} {f : By} (h : Cog p n f) {i j y : Nat} (hi : i < 8) (hj : n ≤ j) (hj8 : j < 8) (hy : y < 8) : bz f (10 + i * 64 + j * 8 + y) = 0 := ((h.1.2.2 i hi).1 j hj8).2 (by omega) y hy
theorem s_l02Code_ok (B : Bs P ρ) (E : F_s_l02Code P ρ) {H : List Blk} {p n : Int} {f : By} {a : At} {L : List By} (hL : VS H a L) (hlen : L.length ≤ 1000000) :
    CallR P ρ 416 [.ag [p, n] 522 f, a] H (fun u G => u = .one (.i .i64 (oc (cgQ p n f L) 1)) ∧ G = H) := by
  refine CallR.pure (call_of_q B.fn B.mo E.1 rfl (fun hA hH => ?_) (by simp only [List.all_cons, List.all_nil, hL.lt]; rfl)) rfl
  refine ⟨_, rfl, ?_⟩
  refine .inl ⟨_, _, _, _, get_new, ⟨rfl, by omega⟩, ?_⟩
  refine ⟨_, s_l02Is_ok B E.2.1 (p := p) (n := n) (f := f), rfl, ?_⟩
  refine ⟨fun h8 => ?_, fun h8 => ?_⟩
  · skip
    have hq : ¬ Cog p n f := fun z => by rw [decide_eq_true z] at h8; cases h8
    exact ⟨rfl, by rw [oc_f fun q : cgQ p n f L => hq q.1]; rfl, Ext.app⟩
  · skip
    have hq : Cog p n f := by simpa using h8
    refine ⟨Unit, (fun a1 a2 (i0 : Nat) (x0 : Unit) => [(1, a1), (2, a2), (5, .one (.i .i64 ((i0 : Nat) : Int)))]) _ _ , fun (i0 : Nat) (x0 : Unit) (G0 : List Blk) => (G0 = H ++ [⟨false, .by [p, n] 522 f⟩] ∧ ∀ i, i < i0 → Vec p n (L.getD i z0) 0), L.length, ⟨(), ⟨rfl, fun i h => absurd h (by omega)⟩, ⟨rfl, rfl, rfl, trivial⟩⟩, ?_⟩
    rintro i0 _ G0 hi0 ⟨rfl, hF0⟩
    refine ⟨_, (hL).len, ?_⟩
    refine ⟨fun h12 => ?_, fun h12 => ?_⟩
    · replace h12 := of_decide_eq_true h12
      refine ⟨_, _, get_new, rfl, ?_⟩
      refine ⟨_, _, get_new, rfl, ?_⟩
      obtain ⟨k21, o21, n21, c21, q21, ea21, hl21, hq21, r21, N21, f21, hk21, hN21, hf21⟩ := (hL.ext Ext.app).at i0 (by omega)
      refine ⟨k21, o21, n21, c21, i0, q21, ea21, rfl, hl21, hq21, ?_⟩
      refine ⟨_, _, _, _, _, hk21, ⟨by simp, hN21⟩, hf21, ?_⟩
      refine ⟨_, s_l01Vector_ok B E.2.2 , rfl, ?_⟩
      refine ⟨fun h24 => ?_, fun h24 => ?_⟩
      · skip
        have q24 : ¬ Vec p n (L.getD i0 z0) 0 := fun q => by rw [decide_eq_true q] at h24; cases h24
        exact ⟨rfl, by rw [oc_f fun q : cgQ p n f L => q24 (q.2 _ (getD_mem (by omega)))]; rfl, Ext.app⟩
      · skip
        have q24 : Vec p n (L.getD i0 z0) 0 := by simpa using h24
        refine ⟨((i0 + 1 : Nat) : Int), w64_id _ (by omega) (by omega), ?_⟩
        refine ⟨by omega, (), ?_, ⟨rfl, rfl, rfl, trivial⟩⟩
        refine ⟨rfl, fun i hi => ?_⟩
        by_cases e : i = i0
        · subst e; exact q24
        · exact hF0 i (by omega)
    · replace h12 := of_decide_eq_false h12
      have e0 : L.length = i0 := by omega
      subst e0
      exact ⟨rfl, by rw [oc_t (show cgQ p n f L from ⟨hq, all_getD.2 hF0⟩)]; rfl, Ext.app⟩

theorem i_Coalgebra_has_1_ok (B : Bs P ρ) (E : F_i_Coalgebra_has_1 P ρ) {H : List Blk} {k1 kh : Nat} {r1 rh : Bool} {p n : Int} {f v : By} (h1 : H[k1]? = some ⟨r1, .vr (.pt kh 0)⟩) (hh : H[kh]? = some ⟨rh, .by [p, n] 522 f⟩) :
    CallR P ρ 433 [.ag [] 8 v, .pt k1 0] H (fun u G => u = .one (.b (!decide (Shp p n ∧ Vec p n v 0))) ∧ G = H) := by
  refine CallR.pure (call_of_q B.fn B.mo E.1 rfl (fun hA hH => ?_) (by simp [At.lt, lt_of h1])) rfl
  refine ⟨_, rfl, ?_⟩
  refine ⟨_, _, app_old h1, rfl, ?_⟩
  refine ⟨_, _, app_old hh, rfl, ?_⟩
  refine ⟨_, _, app_old h1, rfl, ?_⟩
  refine ⟨_, _, app_old hh, rfl, ?_⟩
  refine ⟨_, _, _, _, v, get_new, ⟨by simp, by omega⟩, fun x _ => congrArg _ (Nat.zero_add x).symm, ?_⟩
  refine ⟨_, i_IsVector_ok B E.2 , rfl, ?_⟩
  exact ⟨rfl, rfl, Ext.app⟩

theorem i_Coalgebra_has_ok (B : Bs P ρ) (E : F_i_Coalgebra_has P ρ) {H : List Blk} {kh : Nat} {rh : Bool} {p n : Int} {f : By} {a : At} {L : List By} (hh : H[kh]? = some ⟨rh, .by [p, n] 522 f⟩) (hL : VS H a L) (hlen : L.length ≤ 1000000) :
    CallR P ρ 432 [.pt kh 0, a] H (fun u G => u = .one (.b (decide (∀ v ∈ L, Shp p n ∧ Vec p n v 0))) ∧ G = H) := by
  refine CallR.pure (call_of_q B.fn B.mo E.1 rfl (fun hA hH => ?_) (by simp only [List.all_cons, List.all_nil, hL.lt]; simp [At.lt, lt_of hh])) rfl
  refine ⟨_, rfl, ?_⟩
  refine ⟨_, x_ContainsFunc_V2_ok B E.2.2 (q := fun i => !decide (Shp p n ∧ Vec p n (L.getD i z0) 0)) (hL.ext Ext.app) (by simp [At.lt]) hlen (fun i hi => i_Coalgebra_has_1_ok B E.2.1 get_new (app_old hh)), ?_⟩
  rintro _ _ ⟨rfl, rfl⟩
  refine ⟨rfl, ?_, Ext.app⟩
  have e : (!decide (∃ i, i < L.length ∧ (!decide (Shp p n ∧ Vec p n (L.getD i z0) 0)) = true)) = decide (∀ v ∈ L, Shp p n ∧ Vec p n v 0) := by
    by_cases h : ∀ v ∈ L, Shp p n ∧ Vec p n v 0
    · rw [decide_eq_true h, decide_eq_false]
      · rfl
      · rintro ⟨i, hi, hq⟩
        rw [decide_eq_true (h _ (getD_mem hi))] at hq; cases hq
    · rw [decide_eq_false h, decide_eq_true]
      · rfl
      · apply Classical.byContradiction
        intro hn
        exact h (all_getD.2 fun i hi => Classical.byContradiction fun q => hn ⟨i, hi, by rw [decide_eq_false q]; rfl⟩)
  rw [← e]; rfl

theorem i_Coalgebra_code_ok (B : Bs P ρ) (E : F_i_Coalgebra_code P ρ) {H : List Blk} {k : Nat} {r : Bool} {p n : Int} {f : By} {a : At} {L : List By} (hk : H[k]? = some ⟨r, .by [p, n] 522 f⟩) (hL : VS H a L) (hlen : L.length ≤ 1000000) :
    CallR P ρ 418 [.pt k 0, a] H (fun u G => u = .one (.i .i64 (oc (cgQ p n f L) 1)) ∧ G = H) := by
  refine CallR.pure (call_of_q B.fn B.mo E.1 rfl (fun hA hH => ?_) (by simp only [List.all_cons, List.all_nil, hL.lt]; simp [At.lt, lt_of hk])) rfl
  refine .inl ⟨_, _, _, _, hk, ⟨rfl, by omega⟩, ?_⟩
  refine ⟨_, i_IsCoalgebra_ok B E.2.1 (p := p) (n := n) (f := f), rfl, ?_⟩
  refine ⟨fun h9 => ?_, fun h9 => ?_⟩
  · skip
    refine brB_t ?_
    refine brB_t ?_
    refine ⟨_, i_Coalgebra_has_ok B E.2.2.1 (p := p) (n := n) (f := f) hk hL hlen, ?_⟩
    rintro _ _ ⟨rfl, rfl⟩
    refine brB_t ?_
    refine ⟨_, i_unless_ok B E.2.2.2 (b := decide (∀ v ∈ L, Shp p n ∧ Vec p n v 0)) (c := 1), rfl, ?_⟩
    refine ⟨rfl, ?_, Ext.refl⟩
    have h9' : Cog p n f := of_decide_eq_true h9
    show Sv.one (.i .i64 (if decide (∀ v ∈ L, Shp p n ∧ Vec p n v 0) = true then 0 else 1)) = _
    rw [oc_dec, oc_eqv (r := cgQ p n f L) ⟨fun z => ⟨h9', fun v hv => (z v hv).2⟩, fun z v hv => ⟨h9'.1.1, z.2 v hv⟩⟩]
  · skip
    refine brB_f ?_
    refine brB_f ?_
    refine brB_f ?_
    refine ⟨_, i_unless_ok B E.2.2.2 (b := false) (c := 1), rfl, ?_⟩
    refine ⟨rfl, ?_, Ext.refl⟩
    rw [oc_f fun z : cgQ p n f L => by rw [decide_eq_true z.1] at h9; cases h9]; rfl

set_option maxHeartbeats 2000000 in
theorem s_l02Coproduct_ok (B : Bs P ρ) (E : F_s_l02Coproduct P ρ) {p : Int} {n : Nat} {f v : By} (hp : 1 ≤ p) (hp2 : p ≤ 256) (hn : n ≤ 8) (hC : Cog p n f) :
    CallOK P ρ 430 [.ag [p, (n : Int)] 522 f, .ag [] 8 v] [] (.one (.ag [] 64 (cpF p n f v))) [] := by
  refine (CallR.pure (call_of_q B.fn B.mo E.1 rfl (fun _ _ => ?_) rfl) rfl).ok
  refine ⟨_, rfl, ?_⟩
  refine ⟨_, rfl, ?_⟩
  refine ⟨_, rfl, ?_⟩
  refine ⟨_, rfl, ?_⟩
  refine ⟨_, _, _, rfl, cputs_by (by simp) (by omega), eqBk_rfl, ?_⟩
  refine ⟨Unit, (fun a2 a3 a4 a5 (i0 : Nat) (x0 : Unit) => [(2, a2), (3, a3), (4, a4), (5, a5), (6, .one (.i .i64 ((i0 : Nat) : Int)))]) _ _ _ _ , fun (i0 : Nat) (x0 : Unit) (G0 : List Blk) => (∃ w, G0 = [⟨false, .by [p, (n : Int)] 522 f⟩, ⟨false, .by [] 8 v⟩, ⟨false, .by [] 64 fun _ => 0⟩, ⟨false, .by [] 64 w⟩] ∧ CpI p f v i0 0 w), n, ⟨(), ⟨_, rfl, CpI.z fun x hx => by simp [spl]⟩, ⟨rfl, rfl, rfl, rfl, rfl, trivial⟩⟩, ?_⟩
  rintro i0 _ G0 hi0 ⟨w0, rfl, hI0⟩
  refine ⟨_, _, rfl, rfl, ?_⟩
  refine ⟨fun h12 => ?_, fun h12 => ?_⟩
  · replace h12 := of_decide_eq_true h12
    refine ⟨Unit, (fun a2 a3 a4 a5 a6 (i1 : Nat) (x1 : Unit) => [(2, a2), (3, a3), (4, a4), (5, a5), (6, a6), (7, .one (.i .i64 ((i1 : Nat) : Int)))]) _ _ _ _ _ , fun (i1 : Nat) (x1 : Unit) (G1 : List Blk) => (∃ w, G1 = [⟨false, .by [p, (n : Int)] 522 f⟩, ⟨false, .by [] 8 v⟩, ⟨false, .by [] 64 fun _ => 0⟩, ⟨false, .by [] 64 w⟩] ∧ CpI p f v i0 i1 w), n, ⟨(), ⟨_, rfl, hI0⟩, ⟨rfl, rfl, rfl, rfl, rfl, rfl, trivial⟩⟩, ?_⟩
    rintro i1 _ G1 hi1 ⟨w1, rfl, hI1⟩
    refine ⟨_, _, rfl, rfl, ?_⟩
    refine ⟨fun h18 => ?_, fun h18 => ?_⟩
    · replace h18 := of_decide_eq_true h18
      refine ⟨_, _, rfl, rfl, ?_⟩
      refine ⟨i1, _, rfl, by omega, rfl, ?_⟩
      refine ⟨_, _, _, _, cpR p f v i0 i1, rfl, ⟨by simp, by omega⟩, fun x hx => by rw [← hI1.cur (by omega) hx]; congr 1; omega, ?_⟩
      refine ⟨i0, _, rfl, by omega, rfl, ?_⟩
      refine ⟨i1, _, rfl, by omega, rfl, ?_⟩
      refine ⟨_, _, _, _, sh f (10 + i0 * 64 + i1 * 8), rfl, ⟨by simp; omega, by omega⟩, fun x hx => by show f _ = f _; congr 1 <;> omega, ?_⟩
      refine ⟨i0, _, rfl, by omega, rfl, ?_⟩
      refine ⟨_, _, rfl, cat_bq i0 (by omega) (by simp) (by omega), ?_⟩
      have hbl := toNat_le (v i0)
      refine ⟨_, s_l01Add_ok B E.2 (p := p) (k := bz v i0) (v := cpR p f v i0 i1) (w := sh f (10 + i0 * 64 + i1 * 8)) hp (by omega) (by unfold bz; omega) (by unfold bz; omega), rfl, ?_⟩
      rw [cpR_k hp hp2]
      refine ⟨i1, _, rfl, by omega, rfl, ?_⟩
      refine ⟨_, _, _, rfl, cputs_by (by simp) (by omega), eqBk_rfl, ?_⟩
      refine ⟨((i1 + 1 : Nat) : Int), w64_id _ (by omega) (by omega), ?_⟩
      refine ⟨by omega, (), ?_, ⟨rfl, rfl, rfl, rfl, rfl, rfl, trivial⟩⟩
      refine ⟨_, rfl, hI1.st (fun x hx he => ?_) fun y hy => ?_⟩
      · unfold spl; rw [if_neg (by omega)]
      · unfold spl; rw [if_pos (by omega)]; congr 1; omega
    · replace h18 := of_decide_eq_false h18
      have e1 : n = i1 := by omega
      subst e1
      refine ⟨((i0 + 1 : Nat) : Int), w64_id _ (by omega) (by omega), ?_⟩
      exact ⟨by omega, (), ⟨_, rfl, hI1.nx fun j y h1 h2 h3 => hC.z (by omega) h1 h2 h3⟩, ⟨rfl, rfl, rfl, rfl, rfl, trivial⟩⟩
  · replace h12 := of_decide_eq_false h12
    have e0 : n = i0 := by omega
    subst e0
    refine ⟨_, _, _, _, cpF p n f v, rfl, ⟨by simp, by omega⟩, fun x hx => by rw [Nat.zero_add]; exact cpF_of hI0 x hx, ?_⟩
    refine ⟨_, _, _, rfl, cputs_by (by simp) (by omega), eqBk_rfl, ?_⟩
    exact ⟨rfl, false, [], 64, _, cpF p n f v, rfl, ⟨by simp, by omega⟩, fun x hx => by simp [spl, hx], rfl, Ext.nil⟩

set_option maxHeartbeats 2000000 in
theorem i_Coalgebra_coproduct_ok (B : Bs P ρ) (E : F_i_Coalgebra_coproduct P ρ) {H : List Blk} {k : Nat} {r : Bool} {p : Int} {n : Nat} {f v : By} (hk : H[k]? = some ⟨r, .by [p, (n : Int)] 522 f⟩) (hp : 1 ≤ p) (hp2 : p ≤ 256) (hn : n ≤ 8) (hC : Cog p n f) :
    CallR P ρ 426 [.pt k 0, .ag [] 8 v] H (fun u G => u = .one (.ag [] 64 (cpF p 8 f v)) ∧ G = H) := by
  refine CallR.pure (call_of_q B.fn B.mo E.1 rfl (fun hA hH => ?_) (by simp [At.lt, lt_of hk])) rfl
  refine ⟨_, rfl, ?_⟩
  refine ⟨H.length + 1, by simp, ?_⟩
  rw [ap2]
  refine ⟨_, CallOK.at1 (app_old hk) (i_Coalgebra_field_ok B E.2.1 (p := p) (n := (n : Int)) (f := f)) rfl rfl, ?_⟩
  rintro _ _ ⟨rfl, rfl⟩
  refine ⟨H.length + 2, by simp, ?_⟩
  refine ⟨H.length + 3, by simp, ?_⟩
  rw [show H ++ [(⟨false, .by [] 8 v⟩ : Blk), ⟨false, (Zk.by 0 64).bk⟩] ++ [⟨false, (Zk.by 2 2).bk⟩] ++ [⟨false, (Zk.by 0 64).bk⟩] = H ++ [(⟨false, .by [] 8 v⟩ : Blk), ⟨false, (Zk.by 0 64).bk⟩, ⟨false, (Zk.by 2 2).bk⟩, ⟨false, (Zk.by 0 64).bk⟩] by simp]
  refine ⟨_, _, _, at_k (i := 2), cputs_2, eqBk_rfl, ?_⟩
  rw [app_set]
  refine ⟨_, _, _, at_k (i := 3), cputs_by (by simp) (by omega), eqBk_rfl, ?_⟩
  rw [app_set]
  refine ⟨_, _, _, _, v, at_k (i := 0), ⟨by simp, by omega⟩, fun x _ => congrArg _ (Nat.zero_add x).symm, ?_⟩
  refine ⟨Unit, (fun a0 a4 a5 a6 a13 (i0 : Nat) (x0 : Unit) => [(0, a0), (4, a4), (5, a5), (6, a6), (13, a13), (14, .one (.i .i64 ((i0 : Nat) : Int)))]) _ _ _ _ _ , fun (i0 : Nat) (x0 : Unit) (G0 : List Blk) => (∃ w, G0 = H ++ [⟨false, .by [] 8 v⟩, ⟨false, .by [] 64 fun _ => 0⟩, ⟨false, .by [p, (n : Int)] 2 fun _ => 0⟩, ⟨false, .by [] 64 w⟩] ∧ CpI p f v i0 0 w), 8, ⟨(), ⟨_, rfl, CpI.z fun x hx => by simp [spl]⟩, ⟨rfl, rfl, rfl, rfl, rfl, rfl, trivial⟩⟩, ?_⟩
  rintro i0 _ G0 hi0 ⟨w0, rfl, hI0⟩
  refine ⟨fun h15 => ?_, fun h15 => ?_⟩
  · replace h15 := of_decide_eq_true h15
    refine ⟨_, rfl, by omega, by omega, ?_⟩
    refine ⟨_, _, at_k (i := 2), rfl, ?_⟩
    refine ⟨Unit, (fun a0 a4 a5 a6 a7 a8 a13 a14 a19 (i1 : Nat) (x1 : Unit) => [(0, a0), (4, a4), (5, a5), (6, a6), (7, a7), (8, a8), (13, a13), (14, a14), (19, a19), (20, .one (.i .i64 ((i1 : Nat) : Int)))]) _ _ _ _ _ _ _ _ _ , fun (i1 : Nat) (x1 : Unit) (G1 : List Blk) => (∃ w, G1 = H ++ [⟨false, .by [] 8 v⟩, ⟨false, .by [] 64 fun _ => 0⟩, ⟨false, .by [p, (n : Int)] 2 fun _ => 0⟩, ⟨false, .by [] 64 w⟩] ∧ CpI p f v i0 i1 w), n, ⟨(), ⟨_, rfl, hI0⟩, ⟨rfl, rfl, rfl, rfl, rfl, rfl, rfl, rfl, rfl, rfl, trivial⟩⟩, ?_⟩
    rintro i1 _ G1 hi1 ⟨w1, rfl, hI1⟩
    refine ⟨fun h21 => ?_, fun h21 => ?_⟩
    · replace h21 := of_decide_eq_true h21
      refine .inl ⟨_, _, _, _, at_k (i := 2), ⟨rfl, by omega⟩, ?_⟩
      refine ⟨i1, _, rfl, by omega, rfl, ?_⟩
      refine ⟨i0, _, rfl, by omega, rfl, ?_⟩
      refine ⟨i1, _, rfl, by omega, rfl, ?_⟩
      refine ⟨_, _, _, _, sh f (10 + i0 * 64 + i1 * 8), app_old hk, ⟨by simp; omega, by omega⟩, fun x hx => by show f _ = f _; congr 1 <;> omega, ?_⟩
      have hbl := toNat_le (v i0)
      refine ⟨_, plus_at B E.2.2 (k := H.length + 3) (off := 0 + i1 * 8) (N := 64) (hd := []) (f := w1) (p := p) (n := (n : Int)) (c := bz v i0) (g0 := fun _ => 0) (w := sh f (10 + i0 * 64 + i1 * 8)) (at_k (i := 3)) hp (by omega) (by simp) (by omega) (by unfold bz; omega) (by unfold bz; omega) (fun x h1 h2 => ?_), ?_⟩
      · have hx := hI1.cur (y := x - i1 * 8) (by omega) (by omega)
        rw [show i1 * 8 + (x - i1 * 8) = x by omega] at hx
        show ((w1 x).toNat : Int) < p
        rw [hx]; exact bz_vec_lt hp hp2
      rintro _ _ ⟨rfl, rfl⟩
      rw [app_set]
      refine ⟨((i1 + 1 : Nat) : Int), w64_id _ (by omega) (by omega), ?_⟩
      refine ⟨by omega, (), ?_, ⟨rfl, rfl, rfl, rfl, rfl, rfl, rfl, rfl, rfl, rfl, trivial⟩⟩
      refine ⟨_, rfl, hI1.st (fun x hx he => ?_) fun y hy => ?_⟩
      · unfold plsN; rw [if_neg (by omega)]
      · unfold plsN
        rw [if_pos (by omega), ← cpR_k hp hp2, show i1 * 8 + y - (0 + i1 * 8) = y by omega]
        unfold vec
        rw [if_pos hy]
        have hx := hI1.cur (y := y) (by omega) hy
        show byt (((w1 (i1 * 8 + y)).toNat + _) % p) = _
        rw [hx]; rfl
    · replace h21 := of_decide_eq_false h21
      have e1 : n = i1 := by omega
      subst e1
      refine ⟨((i0 + 1 : Nat) : Int), w64_id _ (by omega) (by omega), ?_⟩
      exact ⟨by omega, (), ⟨_, rfl, hI1.nx fun j y h1 h2 h3 => hC.z (by omega) h1 h2 h3⟩, ⟨rfl, rfl, rfl, rfl, rfl, rfl, trivial⟩⟩
  · replace h15 := of_decide_eq_false h15
    have e0 : 8 = i0 := by omega
    subst e0
    refine ⟨_, _, _, _, cpF p 8 f v, at_k (i := 3), ⟨by simp, by omega⟩, fun x hx => by rw [Nat.zero_add]; exact cpF_of hI0 x hx, ?_⟩
    refine ⟨_, _, _, at_k (i := 1), cputs_by (by simp) (by omega), eqBk_rfl, ?_⟩
    rw [app_set]
    exact ⟨rfl, false, [], 64, _, cpF p 8 f v, at_k (i := 1), ⟨by simp, by omega⟩, fun x hx => by simp [spl, hx], rfl, Ext.app⟩


end Hf
namespace Hf
open Go Classical
variable {P : Program} {ρ : Nat → FuncId}
theorem VS.at8 {H : List Blk} {k N : Nat} {r : Bool} {g v : By} (h : H[k]? = some ⟨r, .by [] N g⟩) (hN : 8 ≤ N) (hg : ∀ x, x < 8 → g x = v x) : VS H (.sl k 0 1 1) [v] := by
  refine .inr ⟨k, 0, 1, r, N, g, rfl, h, ⟨by omega, by simp⟩, fun i x hi hx => ?_⟩
  obtain rfl : i = 0 := by simpa using hi
  rw [show 0 + 0 * 8 + x = x by omega, hg x hx]; rfl
def cuV (p : Int) (f v : By) : Int := sm 8 (fun k => bz v k * bz f (2 + k)) % p
noncomputable def coV (p n : Int) (f v : By) : By := if cgQ p n f [v] then cpF p n.toNat f v else z0
theorem s_CoproductIn_ok (B : Bs P ρ) (E : F_s_CoproductIn P ρ) {p n : Int} {f v : By} :
    CallOK P ρ 461 [.ag [p, n] 522 f, .ag [] 8 v] [] (.tup [.ag [] 64 (coV p n f v), .i .i64 (oc (cgQ p n f [v]) 1)]) [] := by
  refine (CallR.pure (call_of_q B.fn B.mo E.1 rfl (fun _ _ => ?_) rfl) rfl).ok
  refine ⟨_, rfl, ?_⟩
  refine ⟨_, rfl, ?_⟩
  refine ⟨_, rfl, ?_⟩
  refine .inl ⟨_, _, _, _, rfl, ⟨rfl, by omega⟩, ?_⟩
  refine ⟨_, _, _, _, v, rfl, ⟨by simp, by omega⟩, fun x _ => congrArg _ (Nat.zero_add x).symm, ?_⟩
  refine ⟨_, rfl, ?_⟩
  refine ⟨_, s_l02Code_ok B E.2.1 (p := p) (n := n) (f := f) (L := [v]) (VS.at8 rfl (Nat.le_refl 8) fun x hx => by simp [spl, hx]) (by simp), ?_⟩
  rintro _ _ ⟨rfl, rfl⟩
  refine ⟨fun h12 => ?_, fun h12 => ?_⟩
  · replace h12 := bne_t h12
    have hq : ¬ cgQ p n f [v] := fun z => h12 (oc_t z)
    refine ⟨_, _, _, rfl, cputs_by (by simp) (by omega), eqBk_rfl, ?_⟩
    first
      | exact ⟨rfl, false, [], 64, _, z0, rfl, ⟨by simp, by omega⟩, fun x hx => by simp [spl, hx, z0], by unfold coV; rw [if_neg hq, oc_f hq]; rfl, Ext.nil⟩
      | exact ⟨rfl, false, [], 64, _, cpF p n f v, rfl, ⟨by simp, by omega⟩, fun x hx => by simp [spl, hx], by unfold coV; rw [if_pos hq, oc_t hq]; rfl, Ext.nil⟩
  · replace h12 := bne_f h12
    have hq : cgQ p n f [v] := oc_0 h12
    have hb := AShp.p1 hq.1.1
    obtain ⟨n, rfl⟩ : ∃ k : Nat, n = (k : Int) := ⟨n.toNat, by omega⟩
    refine .inl ⟨_, _, _, _, rfl, ⟨rfl, by omega⟩, ?_⟩
    refine ⟨_, _, _, _, v, rfl, ⟨by simp, by omega⟩, fun x _ => congrArg _ (Nat.zero_add x).symm, ?_⟩
    refine ⟨_, s_l02Coproduct_ok B E.2.2 (p := p) (n := n) (f := f) (v := v) (by omega) (by omega) (by omega) hq.1, rfl, ?_⟩
    refine ⟨_, _, _, rfl, cputs_by (by simp) (by omega), eqBk_rfl, ?_⟩
    first
      | exact ⟨rfl, false, [], 64, _, z0, rfl, ⟨by simp, by omega⟩, fun x hx => by simp [spl, hx, z0], by unfold coV; rw [if_neg hq, oc_f hq]; rfl, Ext.nil⟩
      | exact ⟨rfl, false, [], 64, _, cpF p n f v, rfl, ⟨by simp, by omega⟩, fun x hx => by simp [spl, hx], by unfold coV; rw [if_pos hq, oc_t hq]; rfl, Ext.nil⟩

theorem i_CoproductIn_ok (B : Bs P ρ) (E : F_i_CoproductIn P ρ) {p n : Int} {f v : By} :
    CallOK P ρ 413 [.ag [p, n] 522 f, .ag [] 8 v] [] (.tup [.ag [] 64 (coV p n f v), .i .i64 (oc (cgQ p n f [v]) 1)]) [] := by
  refine (CallR.pure (call_of_q B.fn B.mo E.1 rfl (fun _ _ => ?_) rfl) rfl).ok
  refine ⟨_, rfl, ?_⟩
  refine ⟨_, rfl, ?_⟩
  refine ⟨_, rfl, ?_⟩
  refine ⟨_, _, _, _, v, rfl, ⟨by simp, by omega⟩, fun x _ => congrArg _ (Nat.zero_add x).symm, ?_⟩
  refine ⟨_, rfl, ?_⟩
  refine ⟨_, i_Coalgebra_code_ok B E.2.1 (p := p) (n := n) (f := f) (L := [v]) rfl (VS.at8 rfl (Nat.le_refl 8) fun x hx => by simp [spl, hx]) (by simp), ?_⟩
  rintro _ _ ⟨rfl, rfl⟩
  refine ⟨fun h11 => ?_, fun h11 => ?_⟩
  · replace h11 := bne_t h11
    have hq : ¬ cgQ p n f [v] := fun z => h11 (oc_t z)
    refine ⟨_, _, _, rfl, cputs_by (by simp) (by omega), eqBk_rfl, ?_⟩
    first
      | exact ⟨rfl, false, [], 64, _, z0, rfl, ⟨by simp, by omega⟩, fun x hx => by simp [spl, hx, z0], by unfold coV; rw [if_neg hq, oc_f hq]; rfl, Ext.nil⟩
      | exact ⟨rfl, false, [], 64, _, cpF p n f v, rfl, ⟨by simp, by omega⟩, fun x hx => by simp [spl, hx], by unfold coV; rw [if_pos hq, oc_t hq]; rfl, Ext.nil⟩
  · replace h11 := bne_f h11
    have hq : cgQ p n f [v] := oc_0 h11
    have hb := AShp.p1 hq.1.1
    obtain ⟨n, rfl⟩ : ∃ k : Nat, n = (k : Int) := ⟨n.toNat, by omega⟩
    have hn : n ≤ 8 := by omega
    refine ⟨_, _, _, _, v, rfl, ⟨by simp, by omega⟩, fun x _ => congrArg _ (Nat.zero_add x).symm, ?_⟩
    refine ⟨_, i_Coalgebra_coproduct_ok B E.2.2 (p := p) (n := n) (f := f) (v := v) rfl (by omega) (by omega) hn hq.1, ?_⟩
    rintro _ _ ⟨rfl, rfl⟩
    rw [cpF_8 hn (hq.2 v (by simp))]
    refine ⟨_, _, _, rfl, cputs_by (by simp) (by omega), eqBk_rfl, ?_⟩
    first
      | exact ⟨rfl, false, [], 64, _, z0, rfl, ⟨by simp, by omega⟩, fun x hx => by simp [spl, hx, z0], by unfold coV; rw [if_neg hq, oc_f hq]; rfl, Ext.nil⟩
      | exact ⟨rfl, false, [], 64, _, cpF p n f v, rfl, ⟨by simp, by omega⟩, fun x hx => by simp [spl, hx], by unfold coV; rw [if_pos hq, oc_t hq]; rfl, Ext.nil⟩

theorem s_l02Counit_ok (B : Bs P ρ) (E : F_s_l02Counit P ρ) {p n : Int} {f v : By} (hp : 1 ≤ p) :
    CallOK P ρ 429 [.ag [p, n] 522 f, .ag [] 8 v] [] (.one (.i .i64 (cuV p f v))) [] := by
  refine (CallR.pure (call_of_q B.fn B.mo E rfl (fun _ _ => ?_) rfl) rfl).ok
  refine ⟨_, rfl, ?_⟩
  refine ⟨_, rfl, ?_⟩
  refine ⟨Int, (fun a2 a3 (i0 : Nat) (x0 : Int) => [(2, a2), (3, a3), (5, .one (.i .i64 x0)), (6, .one (.i .i64 ((i0 : Nat) : Int)))]) _ _ , fun (i0 : Nat) (x0 : Int) (G0 : List Blk) => (x0 = sm i0 (fun k => bz v k * bz f (2 + k)) ∧ G0 = [⟨false, .by [p, n] 522 f⟩, ⟨false, .by [] 8 v⟩]), 8, ⟨_, ⟨rfl, rfl⟩, ⟨rfl, rfl, rfl, rfl, trivial⟩⟩, ?_⟩
  rintro i0 x0 G0 hi0 ⟨hx0, rfl⟩
  have q2 := bz2 v f i0 (2 + i0)
  have q3 := sm_bd (n := i0) (x := fun k => bz v k * bz f (2 + k)) (A := 65025) fun k _ => bz2 v f _ _
  refine ⟨fun h8 => ?_, fun h8 => ?_⟩
  · replace h8 := of_decide_eq_true h8
    refine ⟨i0, _, rfl, by omega, rfl, ?_⟩
    refine ⟨_, _, rfl, cat_bq i0 (by omega) (by simp) (by omega), ?_⟩
    refine ⟨i0, _, rfl, by omega, rfl, ?_⟩
    refine ⟨_, _, rfl, cat_bq (2 + i0) (by omega) (by simp) (by omega), ?_⟩
    refine ⟨bz v i0 * bz f (2 + i0), w64_id (bz v i0 * bz f (2 + i0)) (by omega) (by omega), ?_⟩
    refine ⟨x0 + bz v i0 * bz f (2 + i0), w64_id (x0 + bz v i0 * bz f (2 + i0)) (by omega) (by omega), ?_⟩
    refine ⟨((i0 + 1 : Nat) : Int), w64_id _ (by omega) (by omega), ?_⟩
    refine ⟨by omega, _, ?_, ⟨rfl, rfl, rfl, rfl, trivial⟩⟩
    refine ⟨?_, rfl⟩
    rw [hx0]; rfl
  · replace h8 := of_decide_eq_false h8
    have e0 : 8 = i0 := by omega
    subst e0
    refine ⟨_, _, rfl, rfl, ?_⟩
    refine ⟨by omega, cuV p f v, ?_, ?_⟩
    · rw [hx0, Int.tmod_eq_emod_of_nonneg q3.1]; rfl
    exact ⟨rfl, rfl, Ext.nil⟩

theorem s_CounitIn_ok (B : Bs P ρ) (E : F_s_CounitIn P ρ) {p n : Int} {f v : By} :
    CallOK P ρ 462 [.ag [p, n] 522 f, .ag [] 8 v] [] (.tup [.i .i64 (if cgQ p n f [v] then cuV p f v else 0), .i .i64 (oc (cgQ p n f [v]) 1)]) [] := by
  refine (CallR.pure (call_of_q B.fn B.mo E.1 rfl (fun _ _ => ?_) rfl) rfl).ok
  refine ⟨_, rfl, ?_⟩
  refine ⟨_, rfl, ?_⟩
  refine .inl ⟨_, _, _, _, rfl, ⟨rfl, by omega⟩, ?_⟩
  refine ⟨_, _, _, _, v, rfl, ⟨by simp, by omega⟩, fun x _ => congrArg _ (Nat.zero_add x).symm, ?_⟩
  refine ⟨_, rfl, ?_⟩
  refine ⟨_, s_l02Code_ok B E.2.1 (p := p) (n := n) (f := f) (L := [v]) (VS.at8 rfl (Nat.le_refl 8) fun x hx => by simp [spl, hx]) (by simp), ?_⟩
  rintro _ _ ⟨rfl, rfl⟩
  refine ⟨fun h12 => ?_, fun h12 => ?_⟩
  · replace h12 := bne_t h12
    have hq : ¬ cgQ p n f [v] := fun z => h12 (oc_t z)
    first
      | exact ⟨rfl, by rw [if_neg hq, oc_f hq]; rfl, Ext.nil⟩
      | exact ⟨rfl, by rw [if_pos hq, oc_t hq]; rfl, Ext.nil⟩
  · replace h12 := bne_f h12
    have hq : cgQ p n f [v] := oc_0 h12
    have hb := AShp.p1 hq.1.1
    refine .inl ⟨_, _, _, _, rfl, ⟨rfl, by omega⟩, ?_⟩
    refine ⟨_, _, _, _, v, rfl, ⟨by simp, by omega⟩, fun x _ => congrArg _ (Nat.zero_add x).symm, ?_⟩
    refine ⟨_, s_l02Counit_ok B E.2.2 (p := p) (n := n) (f := f) (v := v) (by omega), rfl, ?_⟩
    first
      | exact ⟨rfl, by rw [if_neg hq, oc_f hq]; rfl, Ext.nil⟩
      | exact ⟨rfl, by rw [if_pos hq, oc_t hq]; rfl, Ext.nil⟩

theorem i_CounitIn_ok (B : Bs P ρ) (E : F_i_CounitIn P ρ) {p n : Int} {f v : By} :
    CallOK P ρ 463 [.ag [p, n] 522 f, .ag [] 8 v] [] (.tup [.i .i64 (if cgQ p n f [v] then cuV p f v else 0), .i .i64 (oc (cgQ p n f [v]) 1)]) [] := by
  refine (CallR.pure (call_of_q B.fn B.mo E.1 rfl (fun _ _ => ?_) rfl) rfl).ok
  refine ⟨_, rfl, ?_⟩
  refine ⟨_, rfl, ?_⟩
  refine ⟨_, _, _, _, v, rfl, ⟨by simp, by omega⟩, fun x _ => congrArg _ (Nat.zero_add x).symm, ?_⟩
  refine ⟨_, rfl, ?_⟩
  refine ⟨_, i_Coalgebra_code_ok B E.2.1 (p := p) (n := n) (f := f) (L := [v]) rfl (VS.at8 rfl (Nat.le_refl 8) fun x hx => by simp [spl, hx]) (by simp), ?_⟩
  rintro _ _ ⟨rfl, rfl⟩
  refine ⟨fun h11 => ?_, fun h11 => ?_⟩
  · replace h11 := bne_t h11
    have hq : ¬ cgQ p n f [v] := fun z => h11 (oc_t z)
    first
      | exact ⟨rfl, by rw [if_neg hq, oc_f hq]; rfl, Ext.nil⟩
      | (refine ⟨rfl, ?_, Ext.nil⟩
         rw [if_pos hq, oc_t hq]
         unfold cuV
         rw [sm_congr (n := 8) (x := fun k => bz v k * bz f (2 + k)) (y := fun j => bz (sh f 2) j * bz v j) fun i _ => Int.mul_comm _ _]
         rfl)
  · replace h11 := bne_f h11
    have hq : cgQ p n f [v] := oc_0 h11
    have hb := AShp.p1 hq.1.1
    refine ⟨_, _, _, _, sh f 2, rfl, ⟨by simp, by omega⟩, fun x hx => rfl, ?_⟩
    refine ⟨_, _, _, _, v, rfl, ⟨by simp, by omega⟩, fun x _ => congrArg _ (Nat.zero_add x).symm, ?_⟩
    refine ⟨_, CallOK.at1 (k := 0) rfl (i_Coalgebra_field_ok B E.2.2.1 (p := p) (n := n) (f := f)) rfl rfl, ?_⟩
    rintro _ _ ⟨rfl, rfl⟩
    refine ⟨⟨rfl, rfl, trivial⟩, ?_⟩
    refine ⟨_, i_field_dot_ok B E.2.2.2 (p := p) (n := n) (g := fun _ => 0) (v := sh f 2) (w := v) (by omega) (by omega), rfl, ?_⟩
    first
      | exact ⟨rfl, by rw [if_neg hq, oc_f hq]; rfl, Ext.nil⟩
      | (refine ⟨rfl, ?_, Ext.nil⟩
         rw [if_pos hq, oc_t hq]
         unfold cuV
         rw [sm_congr (n := 8) (x := fun k => bz v k * bz f (2 + k)) (y := fun j => bz (sh f 2) j * bz v j) fun i _ => Int.mul_comm _ _]
         rfl)


end Hf
namespace Hf
open Go Classical
variable {P : Program} {ρ : Nat → FuncId}
def daF (f : By) : By := spl (spl (fun _ => 0) 2 8 (sh f 2)) 10 512 (dBf (sh f 10) 0)
noncomputable def daV (p n : Int) (f : By) : Sv := .tup [.ag [if Cog p n f then p else 0, if Cog p n f then n else 0] 522 (if Cog p n f then daF f else fun _ => 0), .i .i64 (oc (Cog p n f) 1)]
theorem dTf_2 {f : By} {x : Nat} (h : x < 512) : dTf f 10 x = dBf (dBf (sh f 10) 0) 0 x := by
  unfold dTf dBf sh
  have a0 : x / 64 < 8 := by omega
  have b0 : x / 8 % 8 < 8 := by omega
  have c0 : x % 8 < 8 := by omega
  generalize x / 64 = a at *
  generalize x / 8 % 8 = b at *
  generalize x % 8 = c at *
  have h1 : (0 + c * 64 + a * 8 + b) % 8 = b := by omega
  have h2 : (0 + c * 64 + a * 8 + b) / 64 = c := by omega
  have h3 : (0 + c * 64 + a * 8 + b) / 8 % 8 = a := by omega
  rw [h1, h2, h3]
  exact congrArg f (by omega)
theorem dBf_2 {f : By} {x : Nat} : dBf f 10 x = dBf (sh f 10) 0 x := by
  unfold dBf sh
  exact congrArg f (by omega)
/-- cocommutative -/
def CoM (f : By) : Prop := ∀ i j k : Nat, i < 8 → j < 8 → k < j → f (10 + i * 64 + j * 8 + k) = f (10 + i * 64 + k * 8 + j)
theorem CoM.all {f : By} (h : CoM f) {i j k : Nat} (hi : i < 8) (hj : j < 8) (hk : k < 8) : f (10 + i * 64 + j * 8 + k) = f (10 + i * 64 + k * 8 + j) := by
  rcases Nat.lt_trichotomy j k with e | e | e
  · exact (h i k j hi hk e).symm
  · rw [e]
  · exact h i j k hi hj e
/-- commutative -/
def AlC (f : By) : Prop := ∀ i j k : Nat, i < 8 → j < 8 → k < 8 → f (10 + i * 64 + j * 8 + k) = f (10 + j * 64 + i * 8 + k)
def opF (f : By) : By := fun x => if x < 10 then f x else f (10 + (x - 10) / 8 % 8 * 64 + (x - 10) / 64 * 8 + (x - 10) % 8)
theorem i_transposed_c_ok (B : Bs P ρ) (E : E_i_transposed P ρ) {p n : Int} {f : By} {c : Nat} (hc : c < 8) :
    CallOK P ρ 227 [.pt 0 (10 + c * 64)] [⟨true, .by [p, n] 522 f⟩] (.one (.ag [] 64 (trT (sh f (10 + c * 64))))) [⟨true, .by [p, n] 522 f⟩] := by
  refine call_of_vc B.fn B.mo E rfl rfl ?_
  refine ⟨1, rfl, ?_⟩
  refine ⟨2, rfl, ?_⟩
  refine ⟨⟨rfl, by first | omega | (simp <;> omega), by first | omega | (simp <;> omega)⟩, ?_⟩   -- sta ['.t', 3] ['.t', 6] 64
  refine .inl ⟨(fun a0 b0 b1 i0 => St.mk [(0, a0), (2, .one (.pt 1 0)), (3, .one (.pt 2 0)), (7, .one (.i .i64 ((i0 : Nat) : Int)))] [b0, b1, Blk.mk false (.by [] 64 (s2 (fun a b => a < i0) (trG (sh f (10 + c * 64)))))]) _ _ _ , fun i0 => True, 8, trivial, ⟨⟨rfl, rfl, rfl, rfl, trivial⟩, ⟨rfl, rfl, ?_, trivial⟩, rfl⟩, fun i0 hi0 _ => ?_⟩
  · exact blk_by (by rw [s2_z fun a b _ _ q => by omega]; exact z_sta.symm)
  refine ⟨fun h8 => ?_, fun h8 => ?_⟩
  · replace h8 := of_decide_eq_true h8
    refine .inl ⟨(fun a0 a4 a7 b0 b1 i1 => St.mk [(0, a0), (2, .one (.pt 1 0)), (3, .one (.pt 2 0)), (4, a4), (7, a7), (10, .one (.i .i64 ((i1 : Nat) : Int)))] [b0, b1, Blk.mk false (.by [] 64 (s2 (fun a b => a < i0 ∨ (a = i0 ∧ b < i1)) (trG (sh f (10 + c * 64)))))]) _ _ _ _ _ , fun i1 => True, 8, trivial, ⟨⟨rfl, rfl, rfl, rfl, rfl, rfl, trivial⟩, ⟨rfl, rfl, ?_, trivial⟩, rfl⟩, fun i1 hi1 _ => ?_⟩
    · exact blk_by (s2_eq fun a b _ _ => by omega)
    refine ⟨fun h11 => ?_, fun h11 => ?_⟩
    · replace h11 := of_decide_eq_true h11
      refine ⟨i1, (10 + c * 64) + i1 * 8, rfl, by omega, by omega, ?_⟩
      refine ⟨i0, (10 + c * 64) + (i1 * 8 + i0), rfl, by omega, by omega, ?_⟩
      refine ⟨⟨by first | omega | (simp <;> omega), by first | omega | (simp <;> omega)⟩, ?_⟩
      refine ⟨i0, i0 * 8, rfl, by omega, by omega, ?_⟩
      refine ⟨i1, i0 * 8 + i1, rfl, by omega, by omega, ?_⟩
      refine ⟨⟨by first | omega | (simp <;> omega), by first | omega | (simp <;> omega)⟩, ?_⟩   -- st8 ['.t', 23] ['.t', 21]
      refine ⟨((i1 + 1 : Nat) : Int), w64_id _ (by omega) (by omega), ?_⟩
      refine ⟨by omega, trivial, ⟨rfl, rfl, rfl, rfl, rfl, rfl, trivial⟩, ⟨rfl, rfl, ?_, trivial⟩, rfl⟩
      exact blk_by (s2_upd (G := trG (sh f (10 + c * 64))) (by omega) (by omega) fun a b _ _ => by omega).symm
    · replace h11 := of_decide_eq_false h11
      have e1 : 8 = i1 := by omega
      subst e1
      refine ⟨((i0 + 1 : Nat) : Int), w64_id _ (by omega) (by omega), ?_⟩
      refine ⟨by omega, trivial, ⟨rfl, rfl, rfl, rfl, trivial⟩, ⟨rfl, rfl, ?_, trivial⟩, rfl⟩
      exact blk_by (s2_eq fun a b _ _ => by omega)
  · replace h8 := of_decide_eq_false h8
    have e0 : 8 = i0 := by omega
    subst e0
    refine ⟨⟨by first | omega | (simp <;> omega), by first | omega | (simp <;> omega)⟩, ?_⟩
    refine ⟨⟨rfl, by first | omega | (simp <;> omega), by first | omega | (simp <;> omega)⟩, ?_⟩   -- sta ['.t', 2] ['.t', 26] 64
    refine ⟨rfl, ⟨by first | omega | (simp <;> omega), by first | omega | (simp <;> omega)⟩, [], ?_, rfl, ⟨rfl, trivial⟩, rfl, rfl⟩
    exact one_ag (s2_out.trans (s2_eq fun a b h _ => ⟨fun _ => trivial, fun _ => h⟩))
theorem i_Algebra_has_n0_ok (B : Bs P ρ) (E : E_i_Algebra_has P ρ) {n p : Int} {f : By} :
    CallOK P ρ 243 [.pt 0 0, .sn] [⟨true, .by [p, n] 522 f⟩] (.one (.b true)) [⟨true, .by [p, n] 522 f⟩] := by
  refine call_of_vc B.fn B.mo E.1 rfl rfl ?_
  refine ⟨1, rfl, ?_⟩
  refine .inl ⟨2, [0, 1], [.sn, .fn 244 [] [(1, 0)]], [⟨true, .by [p, n] 522 f⟩, ⟨true, .vr (.pt 0 0)⟩], _, _, [_, _], rfl, x_ContainsFunc_nil B (by first | exact E.2 | exact E.2.2) (by simp) rfl rfl, rfl, ⟨⟨_, rfl, fun h => by first | rfl | cases h⟩, ⟨_, rfl, fun h => by first | rfl | cases h⟩, trivial⟩, rfl, rfl, ?_⟩
  exact ⟨rfl, [], rfl, rfl, ⟨rfl, trivial⟩, rfl, rfl⟩

theorem i_Algebra_code_n0_ok (B : Bs P ρ) (E : E_i_Algebra_code P ρ) {n p : Int} {f : By} :
    CallOK P ρ 240 [.pt 0 0, .sn] [⟨true, .by [p, n] 522 f⟩] (.one (.i .i64 (oc (Alg p n f) 1))) [⟨true, .by [p, n] 522 f⟩] := by
  refine call_of_vc B.fn B.mo E.1 rfl rfl ?_
  refine .inl ⟨1, [], _, _, _, _, [_], rfl, i_IsAlgebra_ok B E.2.1 , rfl, trivial, rfl, rfl, ?_⟩
  refine ⟨fun h9 => ?_, fun h9 => ?_⟩
  · skip
    refine brB_t ?_
    refine brB_t ?_
    refine .inl ⟨1, [0], _, _, _, _, [_], rfl, i_Algebra_has_n0_ok B E.2.2.1 , rfl, ⟨⟨_, rfl, fun h => by first | rfl | cases h⟩, trivial⟩, rfl, rfl, ?_⟩
    refine brB_t ?_
    refine .inl ⟨1, [], _, _, _, _, [_], rfl, i_unless_ok B E.2.2.2 , rfl, trivial, rfl, rfl, ?_⟩
    refine ⟨rfl, [], ?_, rfl, ⟨rfl, trivial⟩, rfl, rfl⟩
    rw [oc_t (dec_elim_t h9)]; rfl
  · skip
    refine brB_f ?_
    refine brB_f ?_
    refine brB_f ?_
    refine .inl ⟨1, [], _, _, _, _, [_], rfl, i_unless_ok B E.2.2.2 , rfl, trivial, rfl, rfl, ?_⟩
    refine ⟨rfl, [], ?_, rfl, ⟨rfl, trivial⟩, rfl, rfl⟩
    rw [oc_f (dec_elim_t' h9)]; rfl


theorem i_DualCoalgebra_ok (B : Bs P ρ) (E : F_i_DualCoalgebra P ρ) {p n : Int} {f : By} :
    CallOK P ρ 465 [.ag [p, n] 522 f] [] (dcV p n f) [] := by
  refine (CallR.pure (call_of_q B.fn B.mo E.1 rfl (fun _ _ => ?_) rfl) rfl).ok
  refine ⟨_, rfl, ?_⟩
  refine ⟨_, rfl, ?_⟩
  refine ⟨_, CallOK.at1 (k := 0) rfl (i_Algebra_code_n0_ok B E.2.1 (p := p) (n := n) (f := f)) rfl rfl, ?_⟩
  rintro _ _ ⟨rfl, rfl⟩
  refine ⟨fun h7 => ?_, fun h7 => ?_⟩
  · replace h7 := bne_t h7
    have hA : ¬ Alg p n f := fun z => h7 (oc_t z)
    refine ⟨_, _, _, rfl, cputs_2, eqBk_rfl, ?_⟩
    first
      | (refine ⟨rfl, false, _, 522, _, rfl, ⟨rfl, by omega⟩, ?_, Ext.nil⟩
         show _ = dcV p n f
         unfold dcV
         rw [if_neg hA, if_neg hA, if_neg hA, oc_f hA]
         rfl)
      | (refine ⟨rfl, false, _, 522, _, rfl, ⟨rfl, by omega⟩, ?_, Ext.nil⟩
         show _ = dcV p n f
         unfold dcV
         rw [if_pos hA, if_pos hA, if_pos hA, oc_t hA]
         rfl)
  · replace h7 := bne_f h7
    have hA : Alg p n f := oc_0 h7
    refine ⟨_, _, rfl, rfl, ?_⟩
    refine ⟨_, _, rfl, rfl, ?_⟩
    refine ⟨_, _, _, _, sh f 2, rfl, ⟨by simp, by omega⟩, fun x hx => rfl, ?_⟩
    refine ⟨_, i_dualTable_ok B E.2.2 (f := f) rfl (by simp) (by omega), ?_⟩
    rintro _ _ ⟨rfl, rfl⟩
    refine ⟨⟨rfl, rfl, rfl, trivial⟩, ?_⟩
    refine ⟨_, _, .by [p, n] 522 (dcF f), rfl, cputs_2, ⟨rfl, rfl, fun x h1 h2 => ?_⟩, ?_⟩
    · unfold dcF spl
      have h2 : x < 522 := h2
      by_cases e : 10 ≤ x ∧ x < 10 + 512
      · rw [if_pos e, if_pos e, dTf_2 (by omega)]
      · rw [if_neg e, if_neg e]
    first
      | (refine ⟨rfl, false, _, 522, _, rfl, ⟨rfl, by omega⟩, ?_, Ext.nil⟩
         show _ = dcV p n f
         unfold dcV
         rw [if_neg hA, if_neg hA, if_neg hA, oc_f hA]
         rfl)
      | (refine ⟨rfl, false, _, 522, _, rfl, ⟨rfl, by omega⟩, ?_, Ext.nil⟩
         show _ = dcV p n f
         unfold dcV
         rw [if_pos hA, if_pos hA, if_pos hA, oc_t hA]
         rfl)

theorem s_DualAlgebra_ok (B : Bs P ρ) (E : F_s_DualAlgebra P ρ) {p n : Int} {f : By} :
    CallOK P ρ 466 [.ag [p, n] 522 f] [] (daV p n f) [] := by
  refine (CallR.pure (call_of_q B.fn B.mo E.1 rfl (fun _ _ => ?_) rfl) rfl).ok
  refine ⟨_, rfl, ?_⟩
  refine ⟨_, rfl, ?_⟩
  refine .inl ⟨_, _, _, _, rfl, ⟨rfl, by omega⟩, ?_⟩
  refine ⟨_, s_l02Is_ok B E.2.1 (p := p) (n := n) (f := f), rfl, ?_⟩
  refine ⟨fun h6 => ?_, fun h6 => ?_⟩
  · skip
    have hA : ¬ Cog p n f := fun z => by rw [decide_eq_true z] at h6; cases h6
    refine ⟨_, _, _, rfl, cputs_2, eqBk_rfl, ?_⟩
    first
      | (refine ⟨rfl, false, _, 522, _, rfl, ⟨rfl, by omega⟩, ?_, Ext.nil⟩
         show _ = daV p n f
         unfold daV
         rw [if_neg hA, if_neg hA, if_neg hA, oc_f hA]
         rfl)
      | (refine ⟨rfl, false, _, 522, _, rfl, ⟨rfl, by omega⟩, ?_, Ext.nil⟩
         show _ = daV p n f
         unfold daV
         rw [if_pos hA, if_pos hA, if_pos hA, oc_t hA]
         rfl)
  · skip
    have hA : Cog p n f := by simpa using h6
    refine ⟨_, _, rfl, rfl, ?_⟩
    refine ⟨_, _, rfl, rfl, ?_⟩
    refine ⟨_, _, _, _, sh f 2, rfl, ⟨by simp, by omega⟩, fun x hx => rfl, ?_⟩
    refine ⟨_, _, _, _, sh f 10, rfl, ⟨by simp, by omega⟩, fun x hx => rfl, ?_⟩
    refine ⟨_, s_l02Turned_ok B E.2.2 (f := sh f 10), rfl, ?_⟩
    refine ⟨_, _, _, rfl, cputs_2, eqBk_rfl, ?_⟩
    first
      | (refine ⟨rfl, false, _, 522, _, rfl, ⟨rfl, by omega⟩, ?_, Ext.nil⟩
         show _ = daV p n f
         unfold daV
         rw [if_neg hA, if_neg hA, if_neg hA, oc_f hA]
         rfl)
      | (refine ⟨rfl, false, _, 522, _, rfl, ⟨rfl, by omega⟩, ?_, Ext.nil⟩
         show _ = daV p n f
         unfold daV
         rw [if_pos hA, if_pos hA, if_pos hA, oc_t hA]
         rfl)

theorem i_DualAlgebra_ok (B : Bs P ρ) (E : F_i_DualAlgebra P ρ) {p n : Int} {f : By} :
    CallOK P ρ 467 [.ag [p, n] 522 f] [] (daV p n f) [] := by
  refine (CallR.pure (call_of_q B.fn B.mo E.1 rfl (fun _ _ => ?_) rfl) rfl).ok
  refine ⟨_, rfl, ?_⟩
  refine ⟨_, rfl, ?_⟩
  refine ⟨_, i_Coalgebra_code_ok B E.2.1 (p := p) (n := n) (f := f) (L := []) rfl VS.nil (by simp), ?_⟩
  rintro _ _ ⟨rfl, rfl⟩
  refine ⟨fun h7 => ?_, fun h7 => ?_⟩
  · replace h7 := bne_t h7
    have hA : ¬ Cog p n f := fun z => h7 (oc_t ⟨z, fun v hv => absurd hv (by simp)⟩)
    have hz : oc (cgQ p n f []) 1 = 1 := oc_f fun z => hA z.1
    refine ⟨_, _, _, rfl, cputs_2, eqBk_rfl, ?_⟩
    first
      | (refine ⟨rfl, false, _, 522, _, rfl, ⟨rfl, by omega⟩, ?_, Ext.nil⟩
         show _ = daV p n f
         unfold daV
         rw [if_neg hA, if_neg hA, if_neg hA, oc_f hA, hz]
         rfl)
      | (refine ⟨rfl, false, _, 522, _, rfl, ⟨rfl, by omega⟩, ?_, Ext.nil⟩
         show _ = daV p n f
         unfold daV
         rw [if_pos hA, if_pos hA, if_pos hA, oc_t hA]
         rfl)
  · replace h7 := bne_f h7
    have hA : Cog p n f := (oc_0 h7).1
    refine ⟨_, _, rfl, rfl, ?_⟩
    refine ⟨_, _, rfl, rfl, ?_⟩
    refine ⟨_, _, _, _, sh f 2, rfl, ⟨by simp, by omega⟩, fun x hx => rfl, ?_⟩
    refine ⟨_, i_dualBack_ok B E.2.2 (f := f) rfl (by simp) (by omega), ?_⟩
    rintro _ _ ⟨rfl, rfl⟩
    refine ⟨⟨rfl, rfl, rfl, trivial⟩, ?_⟩
    refine ⟨_, _, .by [p, n] 522 (daF f), rfl, cputs_2, ⟨rfl, rfl, fun x h1 h2 => ?_⟩, ?_⟩
    · unfold daF spl
      by_cases e : 10 ≤ x ∧ x < 10 + 512
      · rw [if_pos e, if_pos e, dBf_2]
      · rw [if_neg e, if_neg e]
    first
      | (refine ⟨rfl, false, _, 522, _, rfl, ⟨rfl, by omega⟩, ?_, Ext.nil⟩
         show _ = daV p n f
         unfold daV
         rw [if_neg hA, if_neg hA, if_neg hA, oc_f hA, hz]
         rfl)
      | (refine ⟨rfl, false, _, 522, _, rfl, ⟨rfl, by omega⟩, ?_, Ext.nil⟩
         show _ = daV p n f
         unfold daV
         rw [if_pos hA, if_pos hA, if_pos hA, oc_t hA]
         rfl)

theorem s_IsCocommutative_ok (B : Bs P ρ) (E : F_s_IsCocommutative P ρ) {p n : Int} {f : By} :
    CallOK P ρ 468 [.ag [p, n] 522 f] [] (.tup [.b (decide (Cog p n f ∧ CoM f)), .i .i64 (oc (Cog p n f) 1)]) [] := by
  refine (CallR.pure (call_of_q B.fn B.mo E.1 rfl (fun _ _ => ?_) rfl) rfl).ok
  refine ⟨_, rfl, ?_⟩
  refine .inl ⟨_, _, _, _, rfl, ⟨rfl, by omega⟩, ?_⟩
  refine ⟨_, s_l02Is_ok B E.2 (p := p) (n := n) (f := f), rfl, ?_⟩
  refine ⟨fun h9 => ?_, fun h9 => ?_⟩
  · skip
    have hA : ¬ Cog p n f := fun z => by rw [decide_eq_true z] at h9; cases h9
    exact ⟨rfl, by rw [oc_f hA, decide_eq_false fun z => hA z.1]; rfl, Ext.nil⟩
  · skip
    have hA : Cog p n f := by simpa using h9
    refine ⟨Unit, (fun a1 (i0 : Nat) (x0 : Unit) => [(1, a1), (4, .one (.i .i64 ((i0 : Nat) : Int)))]) _ , fun (i0 : Nat) (x0 : Unit) (G0 : List Blk) => ((∀ i j k : Nat, i < i0 → j < 8 → k < j → f (10 + i * 64 + j * 8 + k) = f (10 + i * 64 + k * 8 + j)) ∧ G0 = [⟨false, .by [p, n] 522 f⟩]), 8, ⟨(), ⟨fun i j k hi => absurd hi (Nat.not_lt_zero _), rfl⟩, ⟨rfl, rfl, trivial⟩⟩, ?_⟩
    rintro i0 _ G0 hi0 ⟨hF0, rfl⟩
    refine ⟨fun h11 => ?_, fun h11 => ?_⟩
    · replace h11 := of_decide_eq_true h11
      refine ⟨Unit, (fun a1 a4 (i1 : Nat) (x1 : Unit) => [(1, a1), (4, a4), (5, .one (.i .i64 ((i1 : Nat) : Int)))]) _ _ , fun (i1 : Nat) (x1 : Unit) (G1 : List Blk) => ((∀ j k : Nat, j < i1 → k < j → f (10 + i0 * 64 + j * 8 + k) = f (10 + i0 * 64 + k * 8 + j)) ∧ G1 = [⟨false, .by [p, n] 522 f⟩]), 8, ⟨(), ⟨fun j k hi => absurd hi (Nat.not_lt_zero _), rfl⟩, ⟨rfl, rfl, rfl, trivial⟩⟩, ?_⟩
      rintro i1 _ G1 hi1 ⟨hF1, rfl⟩
      refine ⟨fun h15 => ?_, fun h15 => ?_⟩
      · replace h15 := of_decide_eq_true h15
        refine ⟨Unit, (fun a1 a4 a5 (i2 : Nat) (x2 : Unit) => [(1, a1), (4, a4), (5, a5), (6, .one (.i .i64 ((i2 : Nat) : Int)))]) _ _ _ , fun (i2 : Nat) (x2 : Unit) (G2 : List Blk) => ((∀ k : Nat, k < i2 → f (10 + i0 * 64 + i1 * 8 + k) = f (10 + i0 * 64 + k * 8 + i1)) ∧ G2 = [⟨false, .by [p, n] 522 f⟩]), i1, ⟨(), ⟨fun k hi => absurd hi (Nat.not_lt_zero _), rfl⟩, ⟨rfl, rfl, rfl, rfl, trivial⟩⟩, ?_⟩
        rintro i2 _ G2 hi2 ⟨hF2, rfl⟩
        refine ⟨fun h20 => ?_, fun h20 => ?_⟩
        · replace h20 := of_decide_eq_true h20
          refine ⟨i0, _, rfl, by omega, rfl, ?_⟩
          refine ⟨i1, _, rfl, by omega, rfl, ?_⟩
          refine ⟨i2, _, rfl, by omega, rfl, ?_⟩
          refine ⟨_, _, rfl, cat_bq (10 + i0 * 64 + i1 * 8 + i2) (by omega) (by simp <;> omega) (by omega), ?_⟩
          refine ⟨i0, _, rfl, by omega, rfl, ?_⟩
          refine ⟨i2, _, rfl, by omega, rfl, ?_⟩
          refine ⟨i1, _, rfl, by omega, rfl, ?_⟩
          refine ⟨_, _, rfl, cat_bq (10 + i0 * 64 + i2 * 8 + i1) (by omega) (by simp <;> omega) (by omega), ?_⟩
          refine ⟨fun h39 => ?_, fun h39 => ?_⟩
          · replace h39 := bne_t h39
            have hN : ¬ CoM f := fun z => h39 (z i0 i1 i2 (by omega) (by omega) (by omega))
            exact ⟨rfl, by rw [oc_t hA, decide_eq_false fun z => hN z.2]; rfl, Ext.nil⟩
          · replace h39 := bne_f h39
            have hE : f (10 + i0 * 64 + i1 * 8 + i2) = f (10 + i0 * 64 + i2 * 8 + i1) := h39
            refine ⟨((i2 + 1 : Nat) : Int), w64_id _ (by omega) (by omega), ?_⟩
            refine ⟨by omega, (), ?_, ⟨rfl, rfl, rfl, rfl, trivial⟩⟩
            refine ⟨fun k hk => ?_, rfl⟩
            by_cases e : k = i2
            · rw [e]; exact hE
            · exact hF2 k (by omega)
        · replace h20 := of_decide_eq_false h20
          have e2 : i1 = i2 := by omega
          subst e2
          refine ⟨((i1 + 1 : Nat) : Int), w64_id _ (by omega) (by omega), ?_⟩
          refine ⟨by omega, (), ?_, ⟨rfl, rfl, rfl, trivial⟩⟩
          refine ⟨fun j k hj hk => ?_, rfl⟩
          by_cases e : j = i1
          · subst e; exact hF2 k hk
          · exact hF1 j k (by omega) hk
      · replace h15 := of_decide_eq_false h15
        have e1 : 8 = i1 := by omega
        subst e1
        refine ⟨((i0 + 1 : Nat) : Int), w64_id _ (by omega) (by omega), ?_⟩
        refine ⟨by omega, (), ?_, ⟨rfl, rfl, trivial⟩⟩
        refine ⟨fun i j k hi hj hk => ?_, rfl⟩
        by_cases e : i = i0
        · subst e; exact hF1 j k hj hk
        · exact hF0 i j k (by omega) hj hk
    · replace h11 := of_decide_eq_false h11
      have e0 : 8 = i0 := by omega
      subst e0
      exact ⟨rfl, by rw [oc_t hA, decide_eq_true ⟨hA, hF0⟩]; rfl, Ext.nil⟩

theorem i_IsCocommutative_ok (B : Bs P ρ) (E : F_i_IsCocommutative P ρ) {p n : Int} {f : By} :
    CallOK P ρ 469 [.ag [p, n] 522 f] [] (.tup [.b (decide (Cog p n f ∧ CoM f)), .i .i64 (oc (Cog p n f) 1)]) [] := by
  refine (CallR.pure (call_of_q B.fn B.mo E.1 rfl (fun _ _ => ?_) rfl) rfl).ok
  refine ⟨_, rfl, ?_⟩
  refine ⟨_, i_Coalgebra_code_ok B E.2.1 (p := p) (n := n) (f := f) (L := []) rfl VS.nil (by simp), ?_⟩
  rintro _ _ ⟨rfl, rfl⟩
  refine ⟨fun h8 => ?_, fun h8 => ?_⟩
  · replace h8 := bne_t h8
    have hA : ¬ Cog p n f := fun z => h8 (oc_t ⟨z, fun v hv => absurd hv (by simp)⟩)
    have hz : oc (cgQ p n f []) 1 = 1 := oc_f fun z => hA z.1
    exact ⟨rfl, by rw [oc_f hA, hz, decide_eq_false fun z => hA z.1]; rfl, Ext.nil⟩
  · replace h8 := bne_f h8
    have hA : Cog p n f := (oc_0 h8).1
    refine ⟨Unit, (fun a1 (i0 : Nat) (x0 : Unit) => [(1, a1), (10, .one (.i .i64 ((i0 : Nat) : Int)))]) _ , fun (i0 : Nat) (x0 : Unit) (G0 : List Blk) => ((∀ i j k : Nat, i < i0 → j < 8 → k < 8 → f (10 + i * 64 + j * 8 + k) = f (10 + i * 64 + k * 8 + j)) ∧ G0 = [⟨false, .by [p, n] 522 f⟩]), 8, ⟨(), ⟨fun i j k hi => absurd hi (Nat.not_lt_zero _), rfl⟩, ⟨rfl, rfl, trivial⟩⟩, ?_⟩
    rintro i0 _ G0 hi0 ⟨hF0, rfl⟩
    refine ⟨fun h11 => ?_, fun h11 => ?_⟩
    · replace h11 := of_decide_eq_true h11
      refine ⟨i0, _, rfl, by omega, rfl, ?_⟩
      refine ⟨i0, _, rfl, by omega, rfl, ?_⟩
      refine ⟨_, _, _, _, sh f (10 + i0 * 64), rfl, ⟨by simp <;> omega, by omega⟩, fun x hx => by show f _ = f _; congr 1 <;> omega, ?_⟩
      refine ⟨_, CallOK.at1 (k := 0) rfl (i_transposed_c_ok B E.2.2 (p := p) (n := n) (f := f) (c := i0) (by omega)) (by simp [mva, tau]) rfl, ?_⟩
      rintro _ _ ⟨rfl, rfl⟩
      refine ⟨⟨rfl, trivial⟩, ?_⟩
      refine ⟨fun h21 => ?_, fun h21 => ?_⟩
      · skip
        have hN : ¬ CoM f := fun z => neB_t h21 fun x hx => by
          have := trT_app (F := sh f (10 + i0 * 64)) (a := x / 8) (b := x % 8) (by omega) (by omega)
          rw [show x / 8 * 8 + x % 8 = x by omega] at this
          rw [this]
          have hz := z.all (i := i0) (j := x % 8) (k := x / 8) (by omega) (by omega) (by omega)
          show f (10 + i0 * 64 + (x % 8 * 8 + x / 8)) = f (10 + i0 * 64 + x)
          rw [show 10 + i0 * 64 + (x % 8 * 8 + x / 8) = 10 + i0 * 64 + x % 8 * 8 + x / 8 by omega, hz]
          exact congrArg f (by omega)
        exact ⟨rfl, by rw [oc_t hA, decide_eq_false fun z => hN z.2]; rfl, Ext.nil⟩
      · skip
        have hE : ∀ j k : Nat, j < 8 → k < 8 → f (10 + i0 * 64 + j * 8 + k) = f (10 + i0 * 64 + k * 8 + j) := fun j k hj hk => by
          have h := neB_f h21 (k * 8 + j) (by omega)
          rw [trT_app hk hj] at h
          have h' : f (10 + i0 * 64 + (j * 8 + k)) = f (10 + i0 * 64 + (k * 8 + j)) := h
          rwa [show 10 + i0 * 64 + (j * 8 + k) = 10 + i0 * 64 + j * 8 + k by omega, show 10 + i0 * 64 + (k * 8 + j) = 10 + i0 * 64 + k * 8 + j by omega] at h'
        refine ⟨((i0 + 1 : Nat) : Int), w64_id _ (by omega) (by omega), ?_⟩
        refine ⟨by omega, (), ?_, ⟨rfl, rfl, trivial⟩⟩
        refine ⟨fun i j k hi hj hk => ?_, rfl⟩
        by_cases e : i = i0
        · subst e; exact hE j k hj hk
        · exact hF0 i j k (by omega) hj hk
    · replace h11 := of_decide_eq_false h11
      have e0 : 8 = i0 := by omega
      subst e0
      exact ⟨rfl, by rw [oc_t hA, decide_eq_true ⟨hA, fun i j k hi hj hk => hF0 i j k hi hj (by omega)⟩]; rfl, Ext.nil⟩

theorem i_Algebra_opposite_ok (B : Bs P ρ) (E : F_i_Algebra_opposite P ρ) {p n : Int} {f : By} :
    CallOK P ρ 438 [.ag [p, n] 522 f] [] (.one (.ag [p, n] 522 (opF f))) [] := by
  refine (CallR.pure (call_of_q B.fn B.mo E rfl (fun _ _ => ?_) rfl) rfl).ok
  refine ⟨_, rfl, ?_⟩
  refine ⟨_, rfl, ?_⟩
  refine .inl ⟨_, _, _, _, rfl, ⟨rfl, by omega⟩, ?_⟩
  refine ⟨_, rfl, ?_⟩
  refine ⟨_, _, _, rfl, cputs_2, eqBk_rfl, ?_⟩
  refine ⟨Unit, (fun a1 a2 a3 (i0 : Nat) (x0 : Unit) => [(1, a1), (2, a2), (3, a3), (7, .one (.i .i64 ((i0 : Nat) : Int)))]) _ _ _ , fun (i0 : Nat) (x0 : Unit) (G0 : List Blk) => (∃ w, G0 = [⟨false, .by [p, n] 522 f⟩, ⟨false, (Zk.by 2 522).bk⟩, ⟨false, .by [p, n] 522 w⟩] ∧ ∀ x, x < 522 → w x = if 10 ≤ x ∧ (x - 10) / 64 < i0 then opF f x else f x), 8, ⟨(), ⟨_, rfl, fun x hx => by rw [if_neg (by omega)]⟩, ⟨rfl, rfl, rfl, rfl, trivial⟩⟩, ?_⟩
  rintro i0 _ G0 hi0 ⟨w0, rfl, hw0⟩
  refine ⟨fun h8 => ?_, fun h8 => ?_⟩
  · replace h8 := of_decide_eq_true h8
    refine ⟨Unit, (fun a1 a2 a3 a4 a7 (i1 : Nat) (x1 : Unit) => [(1, a1), (2, a2), (3, a3), (4, a4), (7, a7), (10, .one (.i .i64 ((i1 : Nat) : Int)))]) _ _ _ _ _ , fun (i1 : Nat) (x1 : Unit) (G1 : List Blk) => (∃ w, G1 = [⟨false, .by [p, n] 522 f⟩, ⟨false, (Zk.by 2 522).bk⟩, ⟨false, .by [p, n] 522 w⟩] ∧ ∀ x, x < 522 → w x = if 10 ≤ x ∧ ((x - 10) / 64 < i0 ∨ ((x - 10) / 64 = i0 ∧ (x - 10) / 8 % 8 < i1)) then opF f x else f x), 8, ⟨(), ⟨_, rfl, fun x hx => by rw [hw0 x hx]; exact ifc (by omega)⟩, ⟨rfl, rfl, rfl, rfl, rfl, rfl, trivial⟩⟩, ?_⟩
    rintro i1 _ G1 hi1 ⟨w1, rfl, hw1⟩
    refine ⟨fun h11 => ?_, fun h11 => ?_⟩
    · replace h11 := of_decide_eq_true h11
      refine ⟨i1, _, rfl, by omega, rfl, ?_⟩
      refine ⟨i0, _, rfl, by omega, rfl, ?_⟩
      refine ⟨_, _, _, _, sh f (10 + i1 * 64 + i0 * 8), rfl, ⟨by simp <;> omega, by omega⟩, fun x hx => by show f _ = f _; congr 1 <;> omega, ?_⟩
      refine ⟨i0, _, rfl, by omega, rfl, ?_⟩
      refine ⟨i1, _, rfl, by omega, rfl, ?_⟩
      refine ⟨_, _, _, rfl, cputs_by (by simp <;> omega) (by omega), eqBk_rfl, ?_⟩
      refine ⟨((i1 + 1 : Nat) : Int), w64_id _ (by omega) (by omega), ?_⟩
      refine ⟨by omega, (), ?_, ⟨rfl, rfl, rfl, rfl, rfl, rfl, trivial⟩⟩
      refine ⟨_, rfl, fun x hx => ?_⟩
      unfold spl
      by_cases e : 0 + 10 + i0 * 64 + i1 * 8 ≤ x ∧ x < 0 + 10 + i0 * 64 + i1 * 8 + 8
      · rw [if_pos e, if_pos (by omega)]
        unfold opF sh
        rw [if_neg (by omega)]
        exact congrArg f (by omega)
      · rw [if_neg e, hw1 x hx]
        exact ifc (by omega)
    · replace h11 := of_decide_eq_false h11
      have e1 : 8 = i1 := by omega
      subst e1
      refine ⟨((i0 + 1 : Nat) : Int), w64_id _ (by omega) (by omega), ?_⟩
      exact ⟨by omega, (), ⟨_, rfl, fun x hx => by rw [hw1 x hx]; exact ifc (by omega)⟩, ⟨rfl, rfl, rfl, rfl, trivial⟩⟩
  · replace h8 := of_decide_eq_false h8
    have e0 : 8 = i0 := by omega
    subst e0
    refine .inl ⟨_, _, _, _, rfl, ⟨rfl, by omega⟩, ?_⟩
    refine ⟨_, _, .by [p, n] 522 (opF f), rfl, cputs_2, ⟨rfl, rfl, fun x h1 h2 => ?_⟩, ?_⟩
    · have h2 : x < 522 := h2
      rw [hw0 x h2]
      by_cases e : 10 ≤ x
      · rw [if_pos (by omega)]
      · rw [if_neg (by omega)]; unfold opF; rw [if_pos (by omega)]
    exact ⟨rfl, false, _, 522, _, rfl, ⟨rfl, by omega⟩, rfl, Ext.nil⟩

theorem i_IsCommutative_ok (B : Bs P ρ) (E : F_i_IsCommutative P ρ) {p n : Int} {f : By} :
    CallOK P ρ 471 [.ag [p, n] 522 f] [] (.tup [.b (decide (Alg p n f ∧ AlC f)), .i .i64 (oc (Alg p n f) 1)]) [] := by
  refine (CallR.pure (call_of_q B.fn B.mo E.1 rfl (fun _ _ => ?_) rfl) rfl).ok
  refine ⟨_, rfl, ?_⟩
  refine ⟨_, CallOK.at1 (k := 0) rfl (i_Algebra_code_n0_ok B E.2.1 (p := p) (n := n) (f := f)) rfl rfl, ?_⟩
  rintro _ _ ⟨rfl, rfl⟩
  refine ⟨fun h7 => ?_, fun h7 => ?_⟩
  · replace h7 := bne_t h7
    have hA : ¬ Alg p n f := fun z => h7 (oc_t z)
    first
      | exact ⟨rfl, by rw [oc_f hA, decide_eq_false fun z => hA z.1]; rfl, Ext.nil⟩
      | (refine ⟨rfl, ?_, Ext.nil⟩
         have e : eqB 512 (sh (opF f) 10) (sh f 10) = decide (Alg p n f ∧ AlC f) := by
           rw [Bool.eq_iff_iff, eqB_iff, decide_eq_true_eq]
           constructor
           · intro h
             refine ⟨hA, fun i j k hi hj hk => ?_⟩
             have h' : opF f (10 + (j * 64 + i * 8 + k)) = f (10 + (j * 64 + i * 8 + k)) := h _ (by omega)
             unfold opF at h'
             rw [if_neg (by omega)] at h'
             rw [show 10 + i * 64 + j * 8 + k = 10 + (10 + (j * 64 + i * 8 + k) - 10) / 8 % 8 * 64 + (10 + (j * 64 + i * 8 + k) - 10) / 64 * 8 + (10 + (j * 64 + i * 8 + k) - 10) % 8 by omega, h']
             exact congrArg f (by omega)
           · intro h x hx
             show opF f (10 + x) = f (10 + x)
             unfold opF
             rw [if_neg (by omega), h.2 _ _ _ (by omega) (by omega) (by omega)]
             exact congrArg f (by omega)
         rw [oc_t hA, ← e]; rfl)
  · replace h7 := bne_f h7
    have hA : Alg p n f := oc_0 h7
    refine .inl ⟨_, _, _, _, rfl, ⟨rfl, by omega⟩, ?_⟩
    refine ⟨_, i_Algebra_opposite_ok B E.2.2 (p := p) (n := n) (f := f), rfl, ?_⟩
    refine ⟨⟨by simp, by omega⟩, ?_⟩
    refine ⟨_, _, _, _, sh f 10, rfl, ⟨by simp, by omega⟩, fun x hx => rfl, ?_⟩
    first
      | exact ⟨rfl, by rw [oc_f hA, decide_eq_false fun z => hA z.1]; rfl, Ext.nil⟩
      | (refine ⟨rfl, ?_, Ext.nil⟩
         have e : eqB 512 (sh (opF f) 10) (sh f 10) = decide (Alg p n f ∧ AlC f) := by
           rw [Bool.eq_iff_iff, eqB_iff, decide_eq_true_eq]
           constructor
           · intro h
             refine ⟨hA, fun i j k hi hj hk => ?_⟩
             have h' : opF f (10 + (j * 64 + i * 8 + k)) = f (10 + (j * 64 + i * 8 + k)) := h _ (by omega)
             unfold opF at h'
             rw [if_neg (by omega)] at h'
             rw [show 10 + i * 64 + j * 8 + k = 10 + (10 + (j * 64 + i * 8 + k) - 10) / 8 % 8 * 64 + (10 + (j * 64 + i * 8 + k) - 10) / 64 * 8 + (10 + (j * 64 + i * 8 + k) - 10) % 8 by omega, h']
             exact congrArg f (by omega)
           · intro h x hx
             show opF f (10 + x) = f (10 + x)
             unfold opF
             rw [if_neg (by omega), h.2 _ _ _ (by omega) (by omega) (by omega)]
             exact congrArg f (by omega)
         rw [oc_t hA, ← e]; rfl)

theorem l_plus9_ok (B : Bs P ρ) (E : F_l_plus9 P ρ) {p : Int} {v w : By} (hp : 1 ≤ p) :
    CallOK P ρ 470 [.i .i64 p, .ag [] 8 v, .ag [] 8 w] [] (.one (.ag [] 8 (vec 8 p fun y => bz v y + bz w y))) [] := by
  refine (CallR.pure (call_of_q B.fn B.mo E rfl (fun _ _ => ?_) rfl) rfl).ok
  refine ⟨_, rfl, ?_⟩
  refine ⟨_, rfl, ?_⟩
  refine ⟨_, rfl, ?_⟩
  refine ⟨_, rfl, ?_⟩
  refine ⟨_, _, _, rfl, cputs_by (by simp) (by omega), eqBk_rfl, ?_⟩
  refine ⟨Unit, (fun a0 a4 a5 a6 a7 (i0 : Nat) (x0 : Unit) => [(0, a0), (4, a4), (5, a5), (6, a6), (7, a7), (8, .one (.i .i64 ((i0 : Nat) : Int)))]) _ _ _ _ _ , fun (i0 : Nat) (x0 : Unit) (G0 : List Blk) => (∃ u, G0 = [⟨false, .by [] 8 v⟩, ⟨false, .by [] 8 w⟩, ⟨false, .by [] 8 fun _ => 0⟩, ⟨false, .by [] 8 u⟩] ∧ ∀ x, x < 8 → u x = if x < i0 then byt ((bz v x + bz w x) % p) else 0), 8, ⟨(), ⟨_, rfl, fun x hx => by simp [spl]⟩, ⟨rfl, rfl, rfl, rfl, rfl, rfl, trivial⟩⟩, ?_⟩
  rintro i0 _ G0 hi0 ⟨u0, rfl, hu0⟩
  have q2 := toNat_le (v i0)
  have q3 := toNat_le (w i0)
  refine ⟨fun h11 => ?_, fun h11 => ?_⟩
  · replace h11 := of_decide_eq_true h11
    refine ⟨i0, _, rfl, by omega, rfl, ?_⟩
    refine ⟨_, _, rfl, cat_bq i0 (by omega) (by simp) (by omega), ?_⟩
    refine ⟨i0, _, rfl, by omega, rfl, ?_⟩
    refine ⟨_, _, rfl, cat_bq i0 (by omega) (by simp) (by omega), ?_⟩
    refine ⟨bz v i0 + bz w i0, w64_id (bz v i0 + bz w i0) (by unfold bz; omega) (by unfold bz; omega), ?_⟩
    refine ⟨by omega, (bz v i0 + bz w i0) % p, ?_, ?_⟩
    · rw [Int.tmod_eq_emod_of_nonneg (by unfold bz; omega)]
    refine ⟨i0, _, rfl, by omega, rfl, ?_⟩
    refine ⟨_, _, _, rfl, cput_u (by simp) (by omega), eqBk_rfl, ?_⟩
    refine ⟨((i0 + 1 : Nat) : Int), w64_id _ (by omega) (by omega), ?_⟩
    refine ⟨by omega, (), ?_, ⟨rfl, rfl, rfl, rfl, rfl, rfl, trivial⟩⟩
    refine ⟨_, rfl, fun x hx => ?_⟩
    by_cases e : x = i0
    · subst e
      rw [show (0 + x * 1) = x by omega, upd_same, if_pos (by omega)]
    · rw [upd_ne _ _ _ _ (by omega), hu0 x hx]
      exact ifc (by omega)
  · replace h11 := of_decide_eq_false h11
    have e0 : 8 = i0 := by omega
    subst e0
    refine ⟨_, _, _, _, vec 8 p fun y => bz v y + bz w y, rfl, ⟨by simp, by omega⟩, fun x hx => by rw [Nat.zero_add, hu0 x hx, if_pos hx]; unfold vec; rw [if_pos hx], ?_⟩
    refine ⟨_, _, _, rfl, cputs_by (by simp) (by omega), eqBk_rfl, ?_⟩
    exact ⟨rfl, false, [], 8, _, vec 8 p fun y => bz v y + bz w y, rfl, ⟨by simp, by omega⟩, fun x hx => by simp [spl, hx], rfl, Ext.nil⟩


end Hf
namespace Hf
open Go Classical
section
variable {p : Int} {n : Nat} {f g : By}
theorem Tab.out (h : Tab p n g 10) {i j k : Nat} (hi : i < 8) (hj : j < 8) (hk : k < 8) (q : n ≤ i ∨ n ≤ j ∨ n ≤ k) : bz g (10 + i * 64 + j * 8 + k) = 0 := by
  rcases q with q | q | q
  · rw [Nat.add_assoc]; exact (h i hi).2 (by omega) (j * 8 + k) (by omega)
  · exact ((h i hi).1 j hj).2 (by omega) k hk
  · exact (((h i hi).1 j hj).1 k hk).2 (by omega)
theorem Tab.bd (h : Tab p n g 10) {i j k : Nat} (hi : i < 8) (hj : j < 8) (hk : k < 8) : bz g (10 + i * 64 + j * 8 + k) < p := (((h i hi).1 j hj).1 k hk).1
theorem Tab.of (h1 : ∀ i j k : Nat, i < 8 → j < 8 → k < 8 → bz g (10 + i * 64 + j * 8 + k) < p) (h2 : ∀ i j k : Nat, i < 8 → j < 8 → k < 8 → (n ≤ i ∨ n ≤ j ∨ n ≤ k) → bz g (10 + i * 64 + j * 8 + k) = 0) : Tab p n g 10 := by
  intro i hi
  refine ⟨fun j hj => ⟨fun k hk => ⟨h1 i j k hi hj hk, fun q => h2 i j k hi hj hk (by omega)⟩, fun q k hk => h2 i j k hi hj hk (by omega)⟩, fun q k hk => ?_⟩
  have := h2 i (k / 8) (k % 8) hi (by omega) (by omega) (by omega)
  rwa [show 10 + i * 64 + k / 8 * 8 + k % 8 = 10 + i * 64 + k by omega] at this
theorem prd_o (hT : Tab p n g 10) (hn : n ≤ 8) {v w : By} {k : Nat} (hk : k < 8) (h : n ≤ k) : prd n g 10 v w k = 0 :=
  sm_zero fun i hi => sm_zero fun j hj => by rw [hT.out (by omega) (by omega) hk (by omega), Int.mul_zero]
theorem bas_nz {i k : Nat} (h : k ≠ i) : bz (bas i) k = 0 := bz_eq0.2 (by unfold bas; rw [if_neg h])
theorem vec_bas {N : Nat} {X : Nat → Int} {i : Nat} (hp : 2 ≤ p) (hp2 : p ≤ 256) (hi : i < N) (h : ∀ k, k < N → cg p (X k) (bz (bas i) k)) : vec N p X = bas i := by
  funext k
  unfold vec
  by_cases e : k < N
  · rw [if_pos e, show X k % p = bz (bas i) k % p from h k e, Int.emod_eq_of_lt (bz_nn _ _) ?_, byt_bz]
    unfold bz bas
    split
    · show ((1 : UInt8).toNat : Int) < p; show (1 : Int) < p; omega
    · show ((0 : UInt8).toNat : Int) < p; show (0 : Int) < p; omega
  · rw [if_neg e]; unfold bas; rw [if_neg (by omega)]
theorem ofAL (hs : AShp p n g) (A : AL p n) (hm : ∀ i j k, A.m i j k = zc (bz g (10 + i.val * 64 + j.val * 8 + k.val))) (hu : ∀ k, A.u k = zc (bz g (2 + k.val))) : Alg p n g := by
  have hb := AShp.p1 hs
  have hp1 : 1 ≤ p := by omega
  have hp2 : p ≤ 256 := by omega
  have hp3 : 2 ≤ p := hs.1.1.1
  have hn8 : n ≤ 8 := by omega
  refine ⟨hs, fun i hi => ⟨?_, ?_⟩, fun i j k hi hj hk => ?_⟩
  · rw [Int.toNat_natCast]
    have hi : i < n := by omega
    refine vec_bas hp3 hp2 (by omega) fun k hk => ?_
    by_cases hkn : k < n
    · apply zc_eq.1
      rw [prd_r hi, zc_bas (i := ⟨i, hi⟩) (y := ⟨k, hkn⟩)]
      simp only [sf_sm, zc_mul, bz_sh']
      have q := A.ul ⟨i, hi⟩ ⟨k, hkn⟩
      simp only [hu, hm] at q
      exact q
    · rw [prd_o hs.2.2 hn8 hk (by omega), bas_nz (by omega)]; exact cg.rfl'
  · rw [Int.toNat_natCast]
    have hi : i < n := by omega
    refine vec_bas hp3 hp2 (by omega) fun k hk => ?_
    by_cases hkn : k < n
    · apply zc_eq.1
      rw [prd_l hi, zc_bas (i := ⟨i, hi⟩) (y := ⟨k, hkn⟩)]
      simp only [sf_sm, zc_mul, bz_sh']
      have q := A.ur ⟨i, hi⟩ ⟨k, hkn⟩
      simp only [hu, hm] at q
      exact q
    · rw [prd_o hs.2.2 hn8 hk (by omega), bas_nz (by omega)]; exact cg.rfl'
  · rw [Int.toNat_natCast] at hi hj hk ⊢
    refine vec_congr fun y hy => ?_
    by_cases hyn : y < n
    · apply zc_eq.1
      rw [prd_r hk, prd_l hi]
      simp only [sf_sm, zc_mul, bz_sh']
      have q := A.as ⟨i, hi⟩ ⟨j, hj⟩ ⟨k, hk⟩ ⟨y, hyn⟩
      simp only [hm] at q
      exact q
    · rw [prd_o hs.2.2 hn8 hy (by omega), prd_o hs.2.2 hn8 hy (by omega)]; exact cg.rfl'
theorem ofCO (hs : CShp p n g) (C : CO p n) (hd : ∀ i j k, C.d i j k = zc (bz g (10 + i.val * 64 + j.val * 8 + k.val))) (he : ∀ k, C.e k = zc (bz g (2 + k.val))) : Cog p n g := by
  have hb := AShp.p1 hs
  have hp1 : 1 ≤ p := by omega
  have hp2 : p ≤ 256 := by omega
  have hp3 : 2 ≤ p := hs.1.1.1
  have hn8 : n ≤ 8 := by omega
  refine ⟨hs, fun i hi => ⟨?_, ?_⟩, fun t ht => ?_⟩
  · rw [Int.toNat_natCast] at hi ⊢
    refine vec_bas hp3 hp2 (by omega) fun x hx => ?_
    unfold cuL
    by_cases hxn : x < n
    · apply zc_eq.1
      rw [zc_bas (i := ⟨i, hi⟩) (y := ⟨x, hxn⟩)]
      simp only [sf_sm, zc_mul]
      have q := C.cl ⟨i, hi⟩ ⟨x, hxn⟩
      simp only [he, hd] at q
      exact q
    · rw [bas_nz (by omega), sm_zero fun j hj => ?_]
      · exact cg.rfl'
      · rw [hs.2.2.out (by omega) (by omega) hx (by omega), Int.mul_zero]
  · rw [Int.toNat_natCast] at hi ⊢
    refine vec_bas hp3 hp2 hi fun j hj => ?_
    unfold cuR
    apply zc_eq.1
    rw [zc_bas (i := ⟨i, hi⟩) (y := ⟨j, hj⟩)]
    simp only [sf_sm, zc_mul]
    have q := C.cr ⟨i, hi⟩ ⟨j, hj⟩
    simp only [he, hd] at q
    exact q
  · rw [Int.toNat_natCast] at ht ⊢
    have hn0 : 0 < n := by
      rcases Nat.eq_zero_or_pos n with e | e
      · rw [e] at ht; simp at ht
      · exact e
    have a1 : t / (n * n * n) < n := Nat.div_lt_of_lt_mul (by rw [show n * n * n * n = n * n * n * n from rfl] at ht; exact ht)
    have a2 : t / (n * n) % n < n := Nat.mod_lt _ hn0
    have a3 : t / n % n < n := Nat.mod_lt _ hn0
    have a4 : t % n < n := Nat.mod_lt _ hn0
    unfold CoaT
    generalize t / (n * n * n) = i at a1 ⊢
    generalize t / (n * n) % n = j at a2 ⊢
    generalize t / n % n = k at a3 ⊢
    generalize t % n = l at a4 ⊢
    have q := C.ca ⟨i, a1⟩ ⟨j, a2⟩ ⟨k, a3⟩ ⟨l, a4⟩
    simp only [hd] at q
    have : cg p (coL n g i j k l) (coR n g i j k l) := by
      apply zc_eq.1
      unfold coL coR
      simp only [sf_sm, zc_mul]
      exact q
    exact this
/-- the dual of tables -/
def AL.dual (A : AL p n) : CO p n where
  d i j k := A.m j k i
  e := A.u
  ca i j k l := by
    have q := A.as j k l i
    refine Eq.trans (sf_congr fun a => z_mc _ _) (q.trans (sf_congr fun a => z_mc _ _))
  cl i x := by rw [A.ul x i]; exact ite_congr (propext eq_comm) (fun _ => rfl) fun _ => rfl
  cr i j := by rw [A.ur j i]; exact ite_congr (propext eq_comm) (fun _ => rfl) fun _ => rfl
def CO.dual (C : CO p n) : AL p n where
  m i j k := C.d k i j
  u := C.e
  as i j k y := by
    have q := C.ca y i j k
    refine Eq.trans (sf_congr fun a => z_mc _ _) (q.trans (sf_congr fun a => z_mc _ _))
  ul i y := by rw [C.cl y i]; exact ite_congr (propext eq_comm) (fun _ => rfl) fun _ => rfl
  ur i y := by rw [C.cr y i]; exact ite_congr (propext eq_comm) (fun _ => rfl) fun _ => rfl
theorem dcF_m {i j k : Nat} (hi : i < 8) (hj : j < 8) (hk : k < 8) : dcF f (10 + i * 64 + j * 8 + k) = f (10 + j * 64 + k * 8 + i) := by
  unfold dcF spl
  rw [if_pos (by omega), ← dTf_2 (by omega)]
  unfold dTf
  exact congrArg f (by omega)
theorem dcF_u {k : Nat} (hk : k < 8) : dcF f (2 + k) = f (2 + k) := by
  unfold dcF spl
  rw [if_neg (by omega), if_pos (by omega)]
  exact congrArg f (by omega)
theorem daF_m {i j k : Nat} (hi : i < 8) (hj : j < 8) (hk : k < 8) : daF f (10 + i * 64 + j * 8 + k) = f (10 + k * 64 + i * 8 + j) := by
  unfold daF spl
  rw [if_pos (by omega)]
  unfold dBf sh
  exact congrArg f (by omega)
theorem daF_u {k : Nat} (hk : k < 8) : daF f (2 + k) = f (2 + k) := by
  unfold daF spl
  rw [if_neg (by omega), if_pos (by omega)]
  exact congrArg f (by omega)
theorem by_mu {f g : By} (hu : ∀ k, k < 8 → f (2 + k) = g (2 + k)) (hm : ∀ i j k, i < 8 → j < 8 → k < 8 → f (10 + i * 64 + j * 8 + k) = g (10 + i * 64 + j * 8 + k)) : ∀ x, 2 ≤ x → x < 522 → f x = g x := fun x h1 h2 => by
  by_cases e : x < 10
  · have := hu (x - 2) (by omega)
    rwa [show 2 + (x - 2) = x by omega] at this
  · have := hm ((x - 10) / 64) ((x - 10) / 8 % 8) ((x - 10) % 8) (by omega) (by omega) (by omega)
    rwa [show 10 + (x - 10) / 64 * 64 + (x - 10) / 8 % 8 * 8 + (x - 10) % 8 = x by omega] at this
theorem da_dc : ∀ x, 2 ≤ x → x < 522 → daF (dcF f) x = f x :=
  by_mu (fun k hk => by rw [daF_u hk, dcF_u hk]) fun i j k hi hj hk => by rw [daF_m hi hj hk, dcF_m hk hi hj]
theorem dc_da : ∀ x, 2 ≤ x → x < 522 → dcF (daF f) x = f x :=
  by_mu (fun k hk => by rw [dcF_u hk, daF_u hk]) fun i j k hi hj hk => by rw [dcF_m hi hj hk, daF_m hj hk hi]
theorem bz_c {f g : By} {a b : Nat} (h : f a = g b) : bz f a = bz g b := by unfold bz; rw [h]
theorem dc_shp (h : AShp p n f) : CShp p n (dcF f) :=
  ⟨h.1, fun k hk => by rw [bz_c (dcF_u hk)]; exact h.2.1 k hk,
    Tab.of (fun i j k hi hj hk => by rw [bz_c (dcF_m hi hj hk)]; exact h.2.2.bd hj hk hi) fun i j k hi hj hk q => by rw [bz_c (dcF_m hi hj hk)]; exact h.2.2.out hj hk hi (by omega)⟩
theorem da_shp (h : CShp p n f) : AShp p n (daF f) :=
  ⟨h.1, fun k hk => by rw [bz_c (daF_u hk)]; exact h.2.1 k hk,
    Tab.of (fun i j k hi hj hk => by rw [bz_c (daF_m hi hj hk)]; exact Tab.bd (g := f) h.2.2 hk hi hj) fun i j k hi hj hk q => by rw [bz_c (daF_m hi hj hk)]; exact Tab.out (g := f) h.2.2 hk hi hj (by omega)⟩
theorem dc_cog (h : Alg p n f) : Cog p n (dcF f) := by
  have hb := AShp.p1 h.1
  exact ofCO (dc_shp h.1) (alOf (by omega) (by omega) (by omega) h).dual (fun i j k => congrArg zc (bz_c (dcF_m (f := f) (by omega) (by omega) (by omega))).symm) fun k => congrArg zc (bz_c (dcF_u (f := f) (by omega))).symm
theorem da_alg (h : Cog p n f) : Alg p n (daF f) := by
  have hb := AShp.p1 h.1
  exact ofAL (da_shp h.1) (coOf (by omega) (by omega) (by omega) h).dual (fun i j k => congrArg zc (bz_c (daF_m (f := f) (by omega) (by omega) (by omega))).symm) fun k => congrArg zc (bz_c (daF_u (f := f) (by omega))).symm
theorem dc_com : AlC f ↔ CoM (dcF f) := by
  constructor
  · intro h i j k hi hj hk
    rw [dcF_m hi hj (by omega), dcF_m hi (by omega) hj]
    exact h j k i hj (by omega) hi
  · intro h i j k hi hj hk
    have q := h.all hk hi hj
    rwa [dcF_m hk hi hj, dcF_m hk hj hi] at q
/-! ### linear -/
def pl9 (p : Int) (v w : By) : By := vec 8 p fun y => bz v y + bz w y
theorem pl9_vec {v w : By} (hp : 1 ≤ p) (hp2 : p ≤ 256) (hv : Vec p n v 0) (hw : Vec p n w 0) : Vec p n (pl9 p v w) 0 := by
  intro k hk
  rw [Nat.zero_add]
  refine ⟨bz_vec_lt hp hp2, fun q => ?_⟩
  unfold pl9
  have h1 := (hv k hk).2 q
  have h2 := (hw k hk).2 q
  rw [Nat.zero_add] at h1 h2
  rw [bz_vec hp hp2 hk, h1, h2]; rfl
theorem cpF_pl {m : Nat} {v w : By} (hp : 1 ≤ p) (hp2 : p ≤ 256) (hm : m ≤ 8) {k y : Nat} (hk : k < 8) (hy : y < 8) : cpF p m f (pl9 p v w) (k * 8 + y) = pl9 p (sh (cpF p m f v) (k * 8)) (sh (cpF p m f w) (k * 8)) y := by
  have e : ∀ u : By, cpF p m f u (k * 8 + y) = cpR p f u m k y := fun u => by
    unfold cpF; rw [if_pos (by omega), show (k * 8 + y) / 8 = k by omega, show (k * 8 + y) % 8 = y by omega]
  have e1 : ∀ u : By, cg p (bz (sh (cpF p m f u) (k * 8)) y) (sm m fun i => bz u i * bz f (10 + i * 64 + k * 8 + y)) := fun u => by
    show cg p (bz (cpF p m f u) (k * 8 + y)) _
    rw [bz_c (e u)]
    exact cg_vec hp hp2 hy
  rw [e]
  unfold cpR
  unfold pl9
  unfold vec
  rw [if_pos hy, if_pos hy]
  have q : cg p (sm m fun i => bz (vec 8 p fun y => bz v y + bz w y) i * bz f (10 + i * 64 + k * 8 + y)) (bz (sh (cpF p m f v) (k * 8)) y + bz (sh (cpF p m f w) (k * 8)) y) := by
    refine cg.trans ?_ (cg_add (e1 v).symm (e1 w).symm)
    rw [← sm_add]
    refine cg_sm fun i hi => ?_
    rw [← Int.add_mul]
    exact cg_mul (cg_vec hp hp2 (by omega)) cg.rfl'
  exact congrArg byt q
theorem cuV_pl {v w : By} (hp : 1 ≤ p) (hp2 : p ≤ 256) : cuV p f (pl9 p v w) = (cuV p f v + cuV p f w) % p := by
  unfold cuV
  have q : cg p (sm 8 fun k => bz (pl9 p v w) k * bz f (2 + k)) ((sm 8 (fun k => bz v k * bz f (2 + k)) % p) + sm 8 (fun k => bz w k * bz f (2 + k)) % p) := by
    refine cg.trans ?_ (cg_add cg_mod.symm cg_mod.symm)
    rw [← sm_add]
    refine cg_sm fun i hi => ?_
    rw [← Int.add_mul]
    exact cg_mul (cg_vec hp hp2 hi) cg.rfl'
  exact q
theorem cuV_bd {v : By} (hp : 1 ≤ p) : 0 ≤ cuV p f v ∧ cuV p f v < p := ⟨Int.emod_nonneg _ (by omega), Int.emod_lt_of_pos _ (by omega)⟩
/-- the counit of one part -/
theorem cu_back {v : By} (h : Cog p n f) (hv : Vec p n v 0) {k : Nat} (hk : k < n) : byt ((sm n fun j => bz f (2 + j) * bz (cpF p n f v) (j * 8 + k)) % p) = v k := by
  have hb := AShp.p1 h.1
  have hp1 : 1 ≤ p := by omega
  have hp2 : p ≤ 256 := by omega
  have hn : n ≤ 8 := by omega
  have q : cg p (sm n fun j => bz f (2 + j) * bz (cpF p n f v) (j * 8 + k)) (bz v k) := by
    apply zc_eq.1
    have e : cg p (sm n fun j => bz f (2 + j) * bz (cpF p n f v) (j * 8 + k)) (sm n fun j => bz f (2 + j) * sm n fun i => bz v i * bz f (10 + i * 64 + j * 8 + k)) := cg_sm fun j hj => cg_mul cg.rfl' (by
      rw [bz_c (show cpF p n f v (j * 8 + k) = cpR p f v n j k by unfold cpF; rw [if_pos (by omega), show (j * 8 + k) / 8 = j by omega, show (j * 8 + k) % 8 = k by omega])]
      exact cg_vec hp1 hp2 (by omega))
    rw [zc_eq.2 e]
    simp only [sf_sm, zc_mul]
    have C := (coOf hp1 hp2 hn h).cl
    have h1 : ∀ j : Fin n, (zc (bz f (2 + j.val)) : Zq p) * (sf fun i : Fin n => zc (bz v i.val) * zc (bz f (10 + i.val * 64 + j.val * 8 + k))) = sf fun i : Fin n => zc (bz v i.val) * (zc (bz f (2 + j.val)) * zc (bz f (10 + i.val * 64 + j.val * 8 + k))) := fun j => by
      rw [← sf_mul]; exact sf_congr fun i => z_ml _ _ _
    rw [sf_congr h1, sf_sw]
    have h2 : ∀ i : Fin n, (sf fun j : Fin n => (zc (bz v i.val) : Zq p) * (zc (bz f (2 + j.val)) * zc (bz f (10 + i.val * 64 + j.val * 8 + k)))) = (if (⟨k, hk⟩ : Fin n) = i then zc 1 else zc 0) * zc (bz v i.val) := fun i => by
      rw [sf_mul, z_mc]
      refine congrArg (· * _) ((C i ⟨k, hk⟩).trans ?_)
      exact ite_congr (propext eq_comm) (fun _ => rfl) fun _ => rfl
    rw [sf_congr h2]
    exact sf_dl (i := (⟨k, hk⟩ : Fin n)) (F := fun i : Fin n => zc (bz v i.val))
  rw [show _ % p = bz v k % p from q, Int.emod_eq_of_lt (bz_nn _ _) (by have := (hv k (by omega)).1; rwa [Nat.zero_add] at this), byt_bz]
end
end Hf
