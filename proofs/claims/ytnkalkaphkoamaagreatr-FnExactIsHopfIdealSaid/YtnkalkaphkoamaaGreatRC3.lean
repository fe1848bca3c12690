/- Contracts of the functions that the law reaches. -/
import Derived.Test.YtnkalkaphkoamaaGreatRC2
set_option linter.unusedVariables false
set_option linter.unusedSimpArgs false
namespace Hf
open Go Classical
variable {P : Program} {ρ : Nat → FuncId}
theorem x_IndexFunc_V2_ok (B : Bs P ρ) (E : F_x_IndexFunc_V2 P ρ) {g : Nat} {caps : List (Nat × Nat)} {H : List Blk} {a : At} {L : List By} {q : Nat → Bool} {z : Int} (hz : firstQ q L.length 0 = z) (hA : VS H a L) (hcaps : (At.fn g [] caps).lt H.length = true) (hlen : L.length ≤ 1000000) (hq : ∀ i, i < L.length → CallR P ρ g ([.ag [] 8 (L.getD i z0)] ++ caps.map (fun p => .pt p.1 p.2)) H fun u G => u = .one (.b (q i)) ∧ G = H) :
    CallR P ρ 91 [a, .fn g [] caps] H (fun u G => u = .one (.i .i64 z) ∧ G = H) := by
  refine call_of_q B.fn B.mo E rfl (fun hAr hHp => ?_) (by simp only [List.all_cons, List.all_nil, hA.lt, hcaps]; rfl)
  refine ⟨_, (hA).len, ?_⟩
  refine ⟨Unit, (fun a0 a1 a7 (i0 : Nat) (x0 : Unit) => [(0, a0), (1, a1), (7, a7), (8, .one (.i .i64 ((i0 : Nat) : Int)))]) _ _ _ , fun (i0 : Nat) (x0 : Unit) (G0 : List Blk) => (G0 = H ∧ ∀ j, j < i0 → q j = false), L.length, ⟨(), ⟨rfl, fun j h => by omega⟩, ⟨rfl, rfl, rfl, rfl, trivial⟩⟩, ?_⟩
  rintro i0 _ G0 hi0 ⟨rfl, hF0⟩
  refine ⟨fun h9 => ?_, fun h9 => ?_⟩
  · replace h9 := of_decide_eq_true h9
    obtain ⟨k14, o14, n14, c14, q14, ea14, hl14, hq14, r14, N14, f14, hk14, hN14, hf14⟩ := (hA).at i0 (by omega)
    refine ⟨k14, o14, n14, c14, i0, q14, ea14, rfl, hl14, hq14, ?_⟩
    refine ⟨_, _, _, _, _, hk14, ⟨by simp, hN14⟩, hf14, ?_⟩
    refine ⟨_, hq i0 (by omega), ?_⟩
    rintro _ _ ⟨rfl, rfl⟩
    refine ⟨fun h16 => ?_, fun h16 => ?_⟩
    · skip
      have e : z = (i0 : Int) := hz.symm.trans <| firstQ_some (by omega) (by omega) h16 fun j _ h => hF0 j h
      exact ⟨rfl, by rw [e]; rfl, rfl⟩
    · skip
      refine ⟨((i0 + 1 : Nat) : Int), w64_id _ (by omega) (by omega), ?_⟩
      refine ⟨by omega, (), ?_, ⟨rfl, rfl, rfl, rfl, trivial⟩⟩
      refine ⟨rfl, fun j hj => ?_⟩
      by_cases e : j = i0
      · subst e; exact h16
      · exact hF0 j (by omega)
  · replace h9 := of_decide_eq_false h9
    have e0 : L.length = i0 := by omega
    subst e0
    have e : z = -1 := hz.symm.trans <| firstQ_none fun j _ h => hF0 j (by omega)
    exact ⟨rfl, by rw [e]; rfl, rfl⟩

theorem x_ContainsFunc_V2_ok (B : Bs P ρ) (E : F_x_ContainsFunc_V2 P ρ) {g : Nat} {caps : List (Nat × Nat)} {H : List Blk} {a : At} {L : List By} {q : Nat → Bool} (hA : VS H a L) (hcaps : (At.fn g [] caps).lt H.length = true) (hlen : L.length ≤ 1000000) (hq : ∀ i, i < L.length → CallR P ρ g ([.ag [] 8 (L.getD i z0)] ++ caps.map (fun p => .pt p.1 p.2)) H fun u G => u = .one (.b (q i)) ∧ G = H) :
    CallR P ρ 70 [a, .fn g [] caps] H (fun u G => u = .one (.b (decide (∃ i, i < L.length ∧ q i = true))) ∧ G = H) := by
  refine call_of_q B.fn B.mo E.1 rfl (fun hAr hHp => ?_) (by simp only [List.all_cons, List.all_nil, hA.lt, hcaps]; rfl)
  refine ⟨_, x_IndexFunc_V2_ok B E.2 rfl hA hcaps hlen hq, ?_⟩
  rintro _ _ ⟨rfl, rfl⟩
  refine ⟨rfl, ?_, rfl⟩
  have e : decide (∃ i, i < L.length ∧ q i = true) = decide (firstQ q L.length 0 ≥ 0) := by
    refine decide_eq_decide.2 ?_
    show _ ↔ 0 ≤ _
    rw [firstQ_nn]
    exact ⟨fun ⟨i, h1, h2⟩ => ⟨i, by omega, by omega, h2⟩, fun ⟨i, _, h1, h2⟩ => ⟨i, by omega, h2⟩⟩
  rw [e]; rfl

theorem x_IndexFunc_B_ok (B : Bs P ρ) (E : F_x_IndexFunc_B P ρ) {g k off n cap N : Nat} {caps : List (Nat × Nat)} {H : List Blk} {r : Bool} {f : By} {q : Nat → Bool} {z : Int} (hz : firstQ q n 0 = z) (hk : H[k]? = some ⟨r, .by [] N f⟩) (hN : off + n ≤ N) (hcaps : (At.fn g [] caps).lt H.length = true) (hlen : n ≤ 1000000) (hq : ∀ i, i < n → CallR P ρ g ([.u (f (off + i * 1))] ++ caps.map (fun p => .pt p.1 p.2)) H fun u G => u = .one (.b (q i)) ∧ G = H) :
    CallR P ρ 319 [.sl k off n cap, .fn g [] caps] H (fun u G => u = .one (.i .i64 z) ∧ G = H) := by
  refine call_of_q B.fn B.mo E rfl (fun hAr hHp => ?_) (by simp only [List.all_cons, List.all_nil, hcaps]; simp [At.lt, lt_of hk])
  refine ⟨_, rfl, ?_⟩
  refine ⟨Unit, (fun a0 a1 a7 (i0 : Nat) (x0 : Unit) => [(0, a0), (1, a1), (7, a7), (8, .one (.i .i64 ((i0 : Nat) : Int)))]) _ _ _ , fun (i0 : Nat) (x0 : Unit) (G0 : List Blk) => (G0 = H ∧ ∀ j, j < i0 → q j = false), n, ⟨(), ⟨rfl, fun j h => by omega⟩, ⟨rfl, rfl, rfl, rfl, trivial⟩⟩, ?_⟩
  rintro i0 _ G0 hi0 ⟨rfl, hF0⟩
  refine ⟨fun h9 => ?_, fun h9 => ?_⟩
  · replace h9 := of_decide_eq_true h9
    refine ⟨_, _, _, _, _, _, rfl, rfl, by omega, rfl, ?_⟩
    refine ⟨_, _, hk, cat_u (by omega), ?_⟩
    refine ⟨_, hq i0 (by omega), ?_⟩
    rintro _ _ ⟨rfl, rfl⟩
    refine ⟨fun h16 => ?_, fun h16 => ?_⟩
    · skip
      have e : z = (i0 : Int) := hz.symm.trans <| firstQ_some (by omega) (by omega) h16 fun j _ h => hF0 j h
      exact ⟨rfl, by rw [e]; rfl, rfl⟩
    · skip
      refine ⟨((i0 + 1 : Nat) : Int), w64_id _ (by omega) (by omega), ?_⟩
      refine ⟨by omega, (), ?_, ⟨rfl, rfl, rfl, rfl, trivial⟩⟩
      refine ⟨rfl, fun j hj => ?_⟩
      by_cases e : j = i0
      · subst e; exact h16
      · exact hF0 j (by omega)
  · replace h9 := of_decide_eq_false h9
    have e0 : n = i0 := by omega
    subst e0
    have e : z = -1 := hz.symm.trans <| firstQ_none fun j _ h => hF0 j (by omega)
    exact ⟨rfl, by rw [e]; rfl, rfl⟩

theorem i_lead_1_ok (B : Bs P ρ) (E : F_i_lead_1 P ρ) {x : UInt8} :
    CallOK P ρ 320 [.u x] [] (.one (.b (x != 0))) [] := by
  refine (CallR.pure (call_of_q B.fn B.mo E rfl (fun _ _ => ?_) rfl) rfl).ok
  exact ⟨rfl, rfl, Ext.nil⟩

/-- the place of the first entry other than 0, or -1 -/
def ldI (v : By) : Int := if fst8 v < 8 then ((fst8 v : Nat) : Int) else -1
theorem ldI_eq {v : By} : firstQ (fun i => v (0 + 0 * 1 + i * 1) != 0) (8 - 0) 0 = ldI v := by
  have e0 : (fun i => v (0 + 0 * 1 + i * 1) != 0) = fun i => v i != 0 := funext fun i => by rw [show 0 + 0 * 1 + i * 1 = i by omega]
  rw [e0]
  have hle := @fst8_le v
  unfold ldI
  by_cases h : fst8 v < 8
  · rw [if_pos h]
    have h1 : (v (fst8 v) != 0) = true := @fstN_some (fun i => v i != 0) 8 0 (by unfold fst8 at h; omega)
    exact firstQ_some (by omega) (by omega) h1 fun j _ hj => @fstN_none (fun i => v i != 0) 8 0 j (by omega) hj
  · rw [if_neg h]
    exact firstQ_none fun j _ hj => @fstN_none (fun i => v i != 0) 8 0 j (by omega) (by unfold fst8 at h; omega)
theorem ldI_lt {v : By} (h : fst8 v < 8) : ldI v = ((fst8 v : Nat) : Int) := if_pos h
theorem i_lead_ok (B : Bs P ρ) (E : F_i_lead P ρ) {v : By} :
    CallOK P ρ 316 [.ag [] 8 v] [] (.one (.i .i64 (ldI v))) [] := by
  refine (CallR.pure (call_of_q B.fn B.mo E.1 rfl (fun _ _ => ?_) rfl) rfl).ok
  refine ⟨_, rfl, ?_⟩
  refine ⟨0, 8, rfl, rfl, ⟨by omega, by omega, by omega⟩, ?_⟩
  refine ⟨_, x_IndexFunc_B_ok B E.2.1 (f := v) (q := fun i => v (0 + 0 * 1 + i * 1) != 0) ldI_eq get_new (by omega) rfl (by omega) (fun i hi => (i_lead_1_ok B E.2.2).at0 rfl rfl), ?_⟩
  rintro _ _ ⟨rfl, rfl⟩
  exact ⟨rfl, rfl, Ext.nil⟩

theorem plus_at (B : Bs P ρ) (E : E_i_field_plus P ρ) {H : List Blk} {k off N : Nat} {p n c : Int} {g0 w f : By} {hd : List Int} (hk : H[k]? = some ⟨false, .by hd N f⟩) (hp : 1 ≤ p) (hp2 : p ≤ 1000) (ho : hd.length ≤ off) (hN : off + 8 ≤ N) (hc : -1000000000000 ≤ c) (hc2 : c ≤ 1000000000000) (hf : ∀ x, off ≤ x → x < off + 8 → bz f x < p) :
    CallR P ρ 71 [.ag [p, n] 2 g0, .pt k off, .i .i64 c, .ag [] 8 w] H fun u G => u = .tup [] ∧ G = H.set k ⟨false, .by hd N (plsN p f off c w 8)⟩ :=
  ((i_field_plus_ok B E (p := p) (n := n) (k := c) (g0 := g0) (w := w) (f := f) (hd := hd) (N := N) (off := off) hp hp2 ho hN hc hc2 hf).emb (H := H) (H' := H.set k ⟨false, .by hd N (plsN p f off c w 8)⟩) (args := [.ag [p, n] 2 g0, .pt k off, .i .i64 c, .ag [] 8 w]) [k] rfl ⟨⟨_, hk, fun _ => rfl⟩, trivial⟩ rfl rfl (by simp [back]; rfl)).r
theorem byL1_pls {p : Int} {v w r : By} (hp : 1 ≤ p) (hv : ∀ y, y < 8 → bz w y < p) (h : ∀ y, y < 8 → w y = v y) (hr : fst8 r < 8) : ∀ y, y < 8 → plsN p w 0 (-(bz w (fst8 r))) r 8 y = byL1 p v r y := by
  intro y hy
  unfold byL1
  by_cases e : v (fst8 r) = 0
  · rw [if_pos e, bz_eq0.2 ((h _ hr).trans e), Int.neg_zero, plsN_k0 fun x _ hx => hv x (by omega)]
    exact h y hy
  · rw [if_neg e]
    simp only [plsN, addV, vec]
    rw [if_pos (by omega), if_pos hy]
    simp only [bz, Nat.sub_zero]
    rw [h y hy, h _ hr]
theorem i_field_rest_ok (B : Bs P ρ) (E : F_i_field_rest P ρ) {p n : Int} {g v : By} {H : List Blk} {a : At} {L : List By} (hp : 1 ≤ p) (hp2 : p ≤ 256) (hv : ∀ x, x < 8 → bz v x < p) (hL : VS H a L) (hl : ∀ r ∈ L, fst8 r < 8) (hlen : L.length ≤ 1000000) :
    CallR P ρ 379 [.ag [p, n] 2 g, a, .ag [] 8 v] H (fun u G => u = .one (.ag [] 8 (byL p v L)) ∧ G = H) := by
  refine CallR.pure (call_of_q B.fn B.mo E.1 rfl (fun hA hH => ?_) (by simp only [List.all_cons, List.all_nil, hL.lt]; rfl)) rfl
  refine ⟨_, rfl, ?_⟩
  refine ⟨H.length + 1, by simp, ?_⟩
  refine ⟨H.length + 2, by simp, ?_⟩
  refine ⟨_, (hL).len, ?_⟩
  refine ⟨Unit, (fun a3 a5 a6 a9 a10 (i0 : Nat) (x0 : Unit) => [(3, a3), (5, a5), (6, a6), (9, a9), (10, a10), (11, .one (.i .i64 ((i0 : Nat) : Int)))]) _ _ _ _ _ , fun (i0 : Nat) (x0 : Unit) (G0 : List Blk) => (∃ w, (G0[H.length]? = some ⟨false, .by [p, n] 2 g⟩ ∧ G0[H.length + 1]? = some ⟨false, .by [] 8 w⟩ ∧ G0[H.length + 2]? = some ⟨false, .by [] 8 fun _ => 0⟩) ∧ Ext H G0 ∧ (∀ y, y < 8 → bz w y < p) ∧ ∀ y, y < 8 → w y = byL p v (L.take i0) y), L.length, ⟨(), ?_, ⟨rfl, rfl, rfl, rfl, rfl, rfl, trivial⟩⟩, ?_⟩
  · refine ⟨v, ⟨by simp, by simp, by simp; rfl⟩, Ext.app.trans (Ext.app.trans Ext.app), hv, fun _ _ => rfl⟩
  rintro i0 _ G0 hi0 ⟨w, ⟨hb3, hb5, hb6⟩, hE0, hwp, hw⟩
  refine ⟨fun h12 => ?_, fun h12 => ?_⟩
  · replace h12 := of_decide_eq_true h12
    obtain ⟨k13, o13, n13, c13, q13, ea13, hl13, hq13, r13, N13, f13, hk13, hN13, hf13⟩ := (hL.ext hE0).at i0 (by omega)
    refine ⟨k13, o13, n13, c13, i0, q13, ea13, rfl, hl13, hq13, ?_⟩
    refine ⟨_, _, _, _, _, hk13, ⟨by simp, hN13⟩, hf13, ?_⟩
    refine ⟨_, rfl, ?_⟩
    refine ⟨_, _, _, get_new, cputs_by (by simp) (by omega), eqBk_rfl, ?_⟩
    rw [app_set0]
    have hfl := hl _ (getD_mem (L := L) (i := i0) (by omega))
    have hl5 := lt_of hb5
    have hrv : ∀ x, x < 8 → spl (fun _ => 0) 0 8 (L.getD i0 z0) x = L.getD i0 z0 x := fun x hx => by simp [spl, hx]
    refine .inl ⟨_, _, _, _, app_old hb3, ⟨rfl, by omega⟩, ?_⟩
    refine ⟨_, _, _, _, L.getD i0 z0, get_new, ⟨by simp, by omega⟩, fun x hx => by rw [Nat.zero_add]; exact (hrv x hx).symm, ?_⟩
    refine ⟨_, i_lead_ok B E.2.1 , rfl, ?_⟩
    rw [ldI_lt hfl]
    refine ⟨fst8 (L.getD i0 z0), fst8 (L.getD i0 z0), rfl, hfl, by omega, ?_⟩
    refine ⟨_, _, app_old hb5, cat_u hfl, ?_⟩
    have hx := toNat_le (w (fst8 (L.getD i0 z0)))
    refine ⟨_, w64_id _ (by omega) (by omega), ?_⟩
    refine ⟨_, _, _, _, L.getD i0 z0, get_new, ⟨by simp, by omega⟩, fun x hx => by rw [Nat.zero_add]; exact (hrv x hx).symm, ?_⟩
    refine ⟨_, plus_at B E.2.2 (app_old hb5) hp (by omega) (by simp) (by omega) (by omega) (by omega) (fun x _ hx => hwp x (by omega)), ?_⟩
    rintro _ _ ⟨rfl, rfl⟩
    refine ⟨((i0 + 1 : Nat) : Int), w64_id _ (by omega) (by omega), ?_⟩
    refine ⟨by omega, (), ?_, ⟨rfl, rfl, rfl, rfl, rfl, rfl, trivial⟩⟩
    have hn1 : H.length + 1 ≠ H.length := by omega
    have hn2 : H.length + 1 ≠ H.length + 2 := by omega
    refine ⟨_, ⟨set_other (app_old hb3) hn1, set_same (app_old hb5), set_other (app_old hb6) hn2⟩, (hE0.trans Ext.app).set (by omega), ?_, ?_⟩
    · intro y hy
      simp only [bz, plsN]
      rw [if_pos (by omega), bz_byt _ (Int.emod_nonneg _ (by omega)) (by have := Int.emod_lt_of_pos (bz w y + -(bz w (fst8 (L.getD i0 z0))) * bz (L.getD i0 z0) (y - 0)) (show 0 < p by omega); simp only [bz] at this; omega)]
      exact Int.emod_lt_of_pos _ (by omega)
    · intro y hy
      rw [byL_take (by omega)]
      exact byL1_pls hp hwp hw hfl y hy
  · replace h12 := of_decide_eq_false h12
    have e0 : L.length = i0 := by omega
    subst e0
    refine ⟨_, _, _, _, byL p v L, hb5, ⟨by simp, by omega⟩, fun x hx => by rw [Nat.zero_add, hw x hx, List.take_length], ?_⟩
    refine ⟨_, _, _, hb6, cputs_by (by simp) (by omega), eqBk_rfl, ?_⟩
    refine ⟨rfl, false, [], 8, _, byL p v L, set_same hb6, ⟨by simp, by omega⟩, fun x hx => by simp [spl, hx], rfl, ?_⟩
    exact hE0.set (by omega)

theorem i_within_1_ok (B : Bs P ρ) (E : F_i_within_1 P ρ) {p n : Int} {g v : By} {H : List Blk} {a : At} {L : List By} {kf ks : Nat} {r1 r2 : Bool} (hp : 1 ≤ p) (hp2 : p ≤ 256) (hv : ∀ x, x < 8 → bz v x < p) (hf : H[kf]? = some ⟨r1, .by [p, n] 2 g⟩) (hs : H[ks]? = some ⟨r2, .vr a⟩) (hL : VS H a L) (hl : ∀ r ∈ L, fst8 r < 8) (hlen : L.length ≤ 1000000) :
    CallR P ρ 380 [.ag [] 8 v, .pt kf 0, .pt ks 0] H (fun u G => u = .one (.b (!eqB 8 (byL p v L) z0)) ∧ G = H) := by
  refine CallR.pure (call_of_q B.fn B.mo E.1 rfl (fun hA hH => ?_) (by simp [At.lt, lt_of hf, lt_of hs])) rfl
  refine ⟨_, rfl, ?_⟩
  refine .inl ⟨_, _, _, _, app_old hf, ⟨rfl, by omega⟩, ?_⟩
  refine ⟨_, _, app_old hs, rfl, ?_⟩
  refine ⟨_, _, _, _, v, get_new, ⟨by simp, by omega⟩, fun x _ => congrArg _ (Nat.zero_add x).symm, ?_⟩
  refine ⟨_, i_field_rest_ok B E.2 hp hp2 hv (hL.ext Ext.app) hl hlen, ?_⟩
  rintro _ _ ⟨rfl, rfl⟩
  exact ⟨rfl, rfl, Ext.app⟩

theorem VS.shape {H : List Blk} {a : At} {L : List By} (h : VS H a L) : a = .sn ∨ ∃ k o n c, a = .sl k o n c := by
  rcases h with ⟨h, -⟩ | ⟨k, off, cap, r, N, f, h, -⟩
  · exact .inl h
  · exact .inr ⟨_, _, _, _, h⟩
/-- all of M reduce to 0 -/
def inL (p : Int) (L M : List By) : Bool := M.all fun v => eqB 8 (byL p v L) z0
theorem i_within_ok (B : Bs P ρ) (E : F_i_within P ρ) {p : Int} {H : List Blk} {a b : At} {L M : List By} (hp : 1 ≤ p) (hp2 : p ≤ 256) (hL : VS H a L) (hl : ∀ r ∈ L, fst8 r < 8) (hlen : L.length ≤ 1000000) (hM : VS H b M) (hMv : ∀ v ∈ M, ∀ x, x < 8 → bz v x < p) (hMl : M.length ≤ 1000000) :
    CallR P ρ 378 [.i .i64 p, a, b] H (fun u G => u = .one (.b (inL p L M)) ∧ G = H) := by
  refine CallR.pure (call_of_q B.fn B.mo E.1 rfl (fun hA hH => ?_) (by simp only [List.all_cons, List.all_nil, hL.lt, hM.lt]; rfl)) rfl
  rcases hL.shape with rfl | ⟨k0, o0, n0, c0, rfl⟩
  · refine ⟨_, rfl, ?_⟩
    refine ⟨_, rfl, ?_⟩
    refine ⟨_, _, _, get_new, rfl, eqBk_rfl, ?_⟩
    rw [app_set0]
    refine ⟨_, x_ContainsFunc_V2_ok B E.2.2 (q := fun i => !eqB 8 (byL p (M.getD i z0) L) z0) (hM.ext (Ext.app.trans Ext.app)) (by simp [At.lt]) hMl (fun i hi => i_within_1_ok B E.2.1 hp hp2 (hMv _ (getD_mem hi)) get_new (app_old get_new) (hL.ext (Ext.app.trans Ext.app)) hl hlen), ?_⟩
    rintro _ _ ⟨rfl, rfl⟩
    refine ⟨rfl, ?_, Ext.app.trans Ext.app⟩
    have e : (!decide (∃ i, i < M.length ∧ (!eqB 8 (byL p (M.getD i z0) L) z0) = true)) = inL p L M := by
      unfold inL
      rw [Bool.eq_iff_iff, Bool.not_eq_true', decide_eq_false_iff_not, List.all_eq_true]
      constructor
      · intro h v hv
        obtain ⟨i, hi, rfl⟩ := List.mem_iff_getElem.1 hv
        apply Classical.byContradiction
        intro hn
        refine h ⟨i, hi, ?_⟩
        rw [List.getD_eq_getElem?_getD, List.getElem?_eq_getElem hi]
        simpa using hn
      · rintro h ⟨i, hi, hq⟩
        rw [h _ (getD_mem hi)] at hq
        cases hq
    rw [e]; rfl
  · refine ⟨_, rfl, ?_⟩
    refine ⟨_, rfl, ?_⟩
    refine ⟨_, _, _, get_new, rfl, eqBk_rfl, ?_⟩
    rw [app_set0]
    refine ⟨_, x_ContainsFunc_V2_ok B E.2.2 (q := fun i => !eqB 8 (byL p (M.getD i z0) L) z0) (hM.ext (Ext.app.trans Ext.app)) (by simp [At.lt]) hMl (fun i hi => i_within_1_ok B E.2.1 hp hp2 (hMv _ (getD_mem hi)) get_new (app_old get_new) (hL.ext (Ext.app.trans Ext.app)) hl hlen), ?_⟩
    rintro _ _ ⟨rfl, rfl⟩
    refine ⟨rfl, ?_, Ext.app.trans Ext.app⟩
    have e : (!decide (∃ i, i < M.length ∧ (!eqB 8 (byL p (M.getD i z0) L) z0) = true)) = inL p L M := by
      unfold inL
      rw [Bool.eq_iff_iff, Bool.not_eq_true', decide_eq_false_iff_not, List.all_eq_true]
      constructor
      · intro h v hv
        obtain ⟨i, hi, rfl⟩ := List.mem_iff_getElem.1 hv
        apply Classical.byContradiction
        intro hn
        refine h ⟨i, hi, ?_⟩
        rw [List.getD_eq_getElem?_getD, List.getElem?_eq_getElem hi]
        simpa using hn
      · rintro h ⟨i, hi, hq⟩
        rw [h _ (getD_mem hi)] at hq
        cases hq
    rw [e]; rfl

end Hf
namespace Hf
open Go Classical
variable {P : Program} {ρ : Nat → FuncId}
theorem l_eqVectorS_ok (B : Bs P ρ) (E : F_l_eqVectorS P ρ) {H : List Blk} {a b : At} {L : List By} (hA : VS H a L) (hB : VS H b L) (hlen : L.length ≤ 100000000) :
    CallR P ρ 247 [a, b] H (fun u G => u = .one (.b true) ∧ G = H) := by
  refine call_of_q B.fn B.mo E.1 rfl (fun hAr hHp => ?_) (by simp only [List.all_cons, List.all_nil, hA.lt, hB.lt]; rfl)
  refine ⟨_, (hA).len, ?_⟩
  refine ⟨_, (hB).len, ?_⟩
  refine brB_f' (by simp) ?_
  refine ⟨Unit, (fun a0 a1 (i0 : Nat) (x0 : Unit) => [(0, a0), (1, a1), (5, .one (.i .i64 ((i0 : Nat) : Int)))]) _ _ , fun (i0 : Nat) (x0 : Unit) (G0 : List Blk) => (G0 = H), L.length, ⟨(), rfl, ⟨rfl, rfl, rfl, trivial⟩⟩, ?_⟩
  rintro i0 _ G0 hi0 rfl
  refine ⟨_, (hA).len, ?_⟩
  refine ⟨fun h14 => ?_, fun h14 => ?_⟩
  · replace h14 := of_decide_eq_true h14
    obtain ⟨k19, o19, n19, c19, q19, ea19, hl19, hq19, r19, N19, f19, hk19, hN19, hf19⟩ := (hA).at i0 (by omega)
    refine ⟨k19, o19, n19, c19, i0, q19, ea19, rfl, hl19, hq19, ?_⟩
    refine ⟨_, _, _, _, _, hk19, ⟨by simp, hN19⟩, hf19, ?_⟩
    obtain ⟨k23, o23, n23, c23, q23, ea23, hl23, hq23, r23, N23, f23, hk23, hN23, hf23⟩ := (hB).at i0 (by omega)
    refine ⟨k23, o23, n23, c23, i0, q23, ea23, rfl, hl23, hq23, ?_⟩
    refine ⟨_, _, _, _, _, hk23, ⟨by simp, hN23⟩, hf23, ?_⟩
    refine ⟨_, l_eqVector_ok B E.2 , rfl, ?_⟩
    refine brB_f ?_
    refine ⟨((i0 + 1 : Nat) : Int), w64_id _ (by omega) (by omega), ?_⟩
    exact ⟨by omega, (), rfl, ⟨rfl, rfl, rfl, trivial⟩⟩
  · replace h14 := of_decide_eq_false h14
    have e0 : L.length = i0 := by omega
    subst e0
    exact ⟨rfl, rfl, rfl⟩

end Hf
namespace Hf
open Go Classical
variable {P : Program} {ρ : Nat → FuncId}
theorem x_Clone_B_ok (B : Bs P ρ) (E : F_x_Clone_B P ρ) {H : List Blk} {k off n cap : Nat} {r : Bool} {N : Nat} {f : By} (hk : H[k]? = some ⟨r, .by [] N f⟩) (hN : off + n ≤ N) (hn : n ≤ 1000) :
    CallR P ρ 289 [.sl k off n cap] H (fun u G => ∃ b, u = .one b ∧ RowC H.length G n b (fun x => f (off + x)) ∧ Ext H G) := by
  refine call_of_q B.fn B.mo E rfl (fun hAr hHp => ?_) (by simp [At.lt, lt_of hk])
  refine brB_f ?_
  refine ⟨[], _, rfl, rfl, ?_⟩
  refine ⟨_, rowc_app (n := 0) (v := z0) (M := n) (g := fun x => f (off + x)) ⟨_, _, _, _, rfl, get_new, ⟨Nat.le_refl _, Nat.le_refl _, Nat.le_refl _⟩, fun x hx => by omega⟩ ⟨rfl, r, N, f, app_old hk, by omega, fun x hx => rfl⟩ (by omega) (by simp), ?_⟩
  rintro a7 G7 ⟨hv7, hu7, hl7⟩
  refine ⟨rfl, a7, rfl, ?_, ?_⟩
  · obtain ⟨k', cap', N', f', h1, h2, h3, h4⟩ := hv7
    refine ⟨k', cap', N', f', by rw [h1, Nat.zero_add], h2, by omega, fun x hx => ?_⟩
    have := h4 x (by omega)
    rw [this]; simp
  · exact Upto.ext Ext.app hu7 (Nat.le_refl _)

theorem i_reduced_ok (B : Bs P ρ) (E : F_i_reduced P ρ) {H : List Blk} {p : Int} {a : At} {L : List By} (hp : Pr p) (hL : VS H a L) (hv : ∀ v ∈ L, Vp 8 p v) (hlen : L.length ≤ 1000000) :
    CallR P ρ 267 [.i .i64 p, a] H (fun u G => ∃ b, u = .one b ∧ Ext H G ∧ VW H.length G b (redL p L)) := by
  have hp2 := hp.1
  have hp3 := hp.2.1
  refine call_of_q B.fn B.mo E.1 rfl (fun hAr hHp => ?_) (by simp only [List.all_cons, List.all_nil, hL.lt]; rfl)
  refine ⟨_, i_newSystem_ok B E.2.1 , ?_⟩
  rintro _ _ ⟨rfl, rfl⟩
  refine ⟨_, (hL).len, ?_⟩
  refine ⟨Unit, (fun a5 a13 a14 (i0 : Nat) (x0 : Unit) => [(5, a5), (13, a13), (14, a14), (15, .one (.i .i64 ((i0 : Nat) : Int)))]) _ _ _ , fun (i0 : Nat) (x0 : Unit) (G0 : List Blk) => (SY H.length G0 H.length p 0 8 (L.take i0) [] ∧ Ext H G0), L.length, ⟨(), ?_, ⟨rfl, rfl, rfl, rfl, trivial⟩⟩, ?_⟩
  · refine ⟨⟨.sn, [], .sn, get_new, .inl ⟨rfl, rfl⟩, ⟨rfl, fun i h => by simp at h⟩, .inl ⟨rfl, rfl⟩, by simp [OwnT, spB], by simp [OwnT, spB]⟩, Ext.app⟩
  rintro i0 _ G0 hi0 ⟨hS0, hE0⟩
  refine ⟨fun h16 => ?_, fun h16 => ?_⟩
  · replace h16 := of_decide_eq_true h16
    obtain ⟨k17, o17, n17, c17, q17, ea17, hl17, hq17, r17, N17, f17, hk17, hN17, hf17⟩ := (hL.ext hE0).at i0 (by omega)
    refine ⟨k17, o17, n17, c17, i0, q17, ea17, rfl, hl17, hq17, ?_⟩
    refine ⟨_, _, _, _, _, hk17, ⟨by simp, hN17⟩, hf17, ?_⟩
    refine ⟨_, rfl, ?_⟩
    refine ⟨_, _, _, get_new, cputs_by (by simp) (by omega), eqBk_rfl, ?_⟩
    obtain ⟨ra, As, pa, hs, hra, hR, hpa, hnd, hge⟩ := hS0
    have hlt0 := lt_of hs
    rw [app_set0]
    refine ⟨_, _, app_old hs, rfl, ?_⟩
    refine ⟨0, 8, rfl, rfl, ⟨by omega, by omega, by omega⟩, ?_⟩
    refine ⟨?_, ?_⟩
    · skip
      refine ⟨_, x_Clone_B_ok B E.2.2.1 (k := G0.length) (off := 0 + 0 * 1) (n := 8 - 0) get_new (by omega) (by omega), ?_⟩
      rintro _ G25 ⟨b25, rfl, hc25, hE25⟩
      refine ⟨⟨kept1 (app_old hs) (hE25 _ _ (app_old hs)), trivial⟩, ?_⟩
      refine ⟨[0], _, rfl, rfl, ?_⟩
      refine ⟨⟨kept1 (hE25 _ _ (app_old hs)) (app_old (hE25 _ _ (app_old hs))), trivial⟩, ?_⟩
      refine ⟨_, rowc_app (m := G0.length) (g := fun _ => 0) (M := 1) ((hc25.mono (by simp)).ext Ext.app) ⟨rfl, _, _, _, get_new, by simp, fun x hx => by have e : x = 0 := (by omega); subst e; rfl⟩ (by omega) (by have := hE25.len; simp at this ⊢; omega), ?_⟩
      rintro a27 G27 ⟨hv27, hu27, hl27⟩
      have hE27 : Ext G0 G27 := Upto.ext (Ext.app.trans (hE25.trans Ext.app)) hu27 (Nat.le_refl _)
      refine ⟨⟨kept1 (B := sysB p 0 8 ra pa) (by first | exact hE25 _ _ (app_old (app_old hs)) | exact app_old (hE25 _ _ (app_old hs))) (hE27 _ _ hs), trivial⟩, ?_⟩
      obtain ⟨k27, cap27, N27, f27, rfl, hk27, hc27, hf27⟩ := hv27
      have hx27 : RowC G0.length G27 9 (.sl k27 0 (8 - 0 + 1) cap27) (L.getD i0 z0) := ⟨k27, cap27, N27, f27, rfl, hk27, hc27, fun x hx => by
        rw [hf27 x (by omega)]
        dsimp only
        by_cases h8 : x < 8
        · rw [if_pos (by omega)]; simp [spl, h8]
        · rw [if_neg (by omega)]; exact ((hv _ (getD_mem (L := L) (i := i0) (by omega))).2 x (by omega)).symm⟩
      refine ⟨_, rfl, ?_⟩
      refine ⟨⟨kept1 (hE27 _ _ hs) (app_old (hE27 _ _ hs)), trivial⟩, ?_⟩
      refine ⟨_, spn_app (x := .sl k27 0 (8 - 0 + 1) cap27) (hra.fr (l := []) (hE27.trans Ext.app).fr (by simp)) ⟨false, _, get_new, by simp, rfl⟩ (by have := hR.1; simp at this; omega) (by omega), ?_⟩
      rintro a29 G29 ⟨hp29, hf29, hb29, hl29⟩
      obtain ⟨hs29, hS29, hF29⟩ := sy_add hs hra hR hpa hnd hge hE0.len (hE27.trans Ext.app) (hx27.ext Ext.app) hp29 hf29 (app_hb hb29)
      refine ⟨_, _, _, hs29, cput_rw (by simp) hp29.cell, eqBk_rfl, ?_⟩
      refine ⟨((i0 + 1 : Nat) : Int), w64_id _ (by omega) (by omega), ?_⟩
      refine ⟨by omega, (), ?_, ⟨rfl, rfl, rfl, rfl, trivial⟩⟩
      refine ⟨?_, ?_⟩
      · have e : L.take (i0 + 1) = L.take i0 ++ [L.getD i0 z0] := by rw [List.take_add_one]; simp [show i0 < L.length by omega]
        rw [e]; exact hS29
      · exact Upto.ext hE0 (hF29.upto fun k hk => hge k (by simp only [List.mem_cons] at hk; rcases hk with h | h <;> simp [OwnT, h])) (Nat.le_refl _)
    · skip
      refine ⟨[0], _, rfl, rfl, ?_⟩
      refine ⟨⟨kept1 (app_old hs) (app_old (app_old hs)), trivial⟩, ?_⟩
      refine ⟨_, x_Clone_B_ok B E.2.2.1 (k := G0.length) (off := 0 + 0 * 1) (n := 8 - 0) (app_old get_new) (by omega) (by omega), ?_⟩
      rintro _ G25 ⟨b25, rfl, hc25, hE25⟩
      refine ⟨⟨kept1 (app_old (app_old hs)) (hE25 _ _ (app_old (app_old hs))), trivial⟩, ?_⟩
      refine ⟨_, rowc_app (m := G0.length) (g := fun _ => 0) (M := 1) (hc25.mono (by simp)) ⟨rfl, _, _, _, hE25 _ _ get_new, by simp, fun x hx => by have e : x = 0 := (by omega); subst e; rfl⟩ (by omega) (by have := hE25.len; simp at this ⊢; omega), ?_⟩
      rintro a27 G27 ⟨hv27, hu27, hl27⟩
      have hE27 : Ext G0 G27 := Upto.ext (Ext.app.trans (Ext.app.trans hE25)) hu27 (Nat.le_refl _)
      refine ⟨⟨kept1 (B := sysB p 0 8 ra pa) (by first | exact hE25 _ _ (app_old (app_old hs)) | exact app_old (hE25 _ _ (app_old hs))) (hE27 _ _ hs), trivial⟩, ?_⟩
      obtain ⟨k27, cap27, N27, f27, rfl, hk27, hc27, hf27⟩ := hv27
      have hx27 : RowC G0.length G27 9 (.sl k27 0 (8 - 0 + 1) cap27) (L.getD i0 z0) := ⟨k27, cap27, N27, f27, rfl, hk27, hc27, fun x hx => by
        rw [hf27 x (by omega)]
        dsimp only
        by_cases h8 : x < 8
        · rw [if_pos (by omega)]; simp [spl, h8]
        · rw [if_neg (by omega)]; exact ((hv _ (getD_mem (L := L) (i := i0) (by omega))).2 x (by omega)).symm⟩
      refine ⟨_, rfl, ?_⟩
      refine ⟨⟨kept1 (hE27 _ _ hs) (app_old (hE27 _ _ hs)), trivial⟩, ?_⟩
      refine ⟨_, spn_app (x := .sl k27 0 (8 - 0 + 1) cap27) (hra.fr (l := []) (hE27.trans Ext.app).fr (by simp)) ⟨false, _, get_new, by simp, rfl⟩ (by have := hR.1; simp at this; omega) (by omega), ?_⟩
      rintro a29 G29 ⟨hp29, hf29, hb29, hl29⟩
      obtain ⟨hs29, hS29, hF29⟩ := sy_add hs hra hR hpa hnd hge hE0.len (hE27.trans Ext.app) (hx27.ext Ext.app) hp29 hf29 (app_hb hb29)
      refine ⟨_, _, _, hs29, cput_rw (by simp) hp29.cell, eqBk_rfl, ?_⟩
      refine ⟨((i0 + 1 : Nat) : Int), w64_id _ (by omega) (by omega), ?_⟩
      refine ⟨by omega, (), ?_, ⟨rfl, rfl, rfl, rfl, trivial⟩⟩
      refine ⟨?_, ?_⟩
      · have e : L.take (i0 + 1) = L.take i0 ++ [L.getD i0 z0] := by rw [List.take_add_one]; simp [show i0 < L.length by omega]
        rw [e]; exact hS29
      · exact Upto.ext hE0 (hF29.upto fun k hk => hge k (by simp only [List.mem_cons] at hk; rcases hk with h | h <;> simp [OwnT, h])) (Nat.le_refl _)
  · replace h16 := of_decide_eq_false h16
    have e0 : L.length = i0 := by omega
    subst e0
    refine ⟨_, i_system_solve_ok B E.2.2.2 (p := p) (n0 := 0) (m0 := H.length) (m := 8) (R := L) (T0 := []) (by omega) (by omega) (by omega) (by rw [List.take_length] at hS0; exact hS0) (by omega) hE0.len, ?_⟩
    rintro _ G34 ⟨rfl, hS34, hU34⟩
    have hred := sol_red hp hv
    rw [hred] at hS34
    obtain ⟨ra, As, pa, hs, hra, hR, hpa, hnd, hge⟩ := hS34
    have hAl := hR.1
    have hE34 := Upto.ext hE0 hU34 (Nat.le_refl _)
    have hrl := (redL_rr hp hv).1.len
    refine ⟨_, rfl, ?_⟩
    refine ⟨_, _, app_old hs, rfl, ?_⟩
    refine ⟨_, (hra).len, ?_⟩
    refine ⟨At, (fun a39 a40 (i1 : Nat) (x1 : At) => [(8, .one x1), (39, a39), (40, a40), (41, .one (.i .i64 ((i1 : Nat) : Int)))]) _ _ , fun (i1 : Nat) (x1 : At) (G1 : List Blk) => (VW G34.length G1 x1 ((redL p L).take i1) ∧ Upto G34.length G34 G1), As.length, ⟨_, ⟨VW.nil (Nat.le_refl _), Ext.app.upto⟩, ⟨rfl, rfl, rfl, rfl, trivial⟩⟩, ?_⟩
    rintro i1 x1 G1 hi1 ⟨hW1, hU1⟩
    have hE1 : Ext G34 G1 := fun k B e => hU1 k B (lt_of e) e
    refine ⟨fun h42 => ?_, fun h42 => ?_⟩
    · replace h42 := of_decide_eq_true h42
      obtain ⟨k43, o43, n43, c43, q43, ea43, hl43, hq43, r43, l43, hk43, hi43⟩ := rdR_at ((hra.fr (l := []) hE1.fr (by simp)).rd) i1 (by omega)
      refine ⟨k43, o43, n43, c43, i1, q43, ea43, rfl, hl43, hq43, ?_⟩
      obtain ⟨kr, cr, Nr, fr, ea, hkr, hNr, hfr⟩ := (hR.fr (l := []) hE1.fr (by simp)).at i1 (by omega)
      rw [ea] at hi43
      refine ⟨_, _, hk43, hi43, ?_⟩
      refine ⟨0, 8, rfl, rfl, ⟨by omega, by omega⟩, ?_⟩
      refine ⟨by omega, ?_⟩
      have ho : (if cr = 0 then 0 else 0 + 0 * 1) = 0 := by split <;> rfl
      have hg49 : ∀ x, x < 8 → (redL p L).getD i1 z0 x = fr ((if cr = 0 then 0 else 0 + 0 * 1) + x) := by
        intro x hx
        rw [ho, Nat.zero_add]; exact (hfr x (by omega)).symm
      have hb49 : (if cr = 0 then 0 else 0 + 0 * 1) + 8 ≤ Nr := by rw [ho]; omega
      refine ⟨_, _, _, _, (redL p L).getD i1 z0, hkr, ⟨Nat.zero_le _, hb49⟩, hg49, ?_⟩
      refine ⟨_, rfl, ?_⟩
      refine ⟨_, vw_app (hW1.ext Ext.app) (VS.one (v := (redL p L).getD i1 z0)) (by simp; omega) (by have := hE1.len; simp; omega), ?_⟩
      rintro a51 G51 ⟨hv51, hu51⟩
      refine ⟨((i1 + 1 : Nat) : Int), w64_id _ (by omega) (by omega), ?_⟩
      refine ⟨by omega, _, ?_, ⟨rfl, rfl, rfl, rfl, trivial⟩⟩
      have e : (redL p L).take (i1 + 1) = (redL p L).take i1 ++ [(redL p L).getD i1 z0] := by rw [List.take_add_one]; simp [show i1 < (redL p L).length by omega]
      dsimp only; rw [e]
      exact ⟨hv51, hU1.trans ((Ext.app (G := _)).upto.trans hu51)⟩
    · replace h42 := of_decide_eq_false h42
      have e1 : As.length = i1 := by omega
      subst e1
      refine ⟨rfl, x1, rfl, ?_, ?_⟩
      · exact hE34.trans hE1
      · have := hW1.mono hE34.len
        rw [hAl, List.take_length] at this
        exact this

end Hf
namespace Hf
open Go Classical
section
variable {W W' n : Nat} {p : Int}
theorem RR.up (hW : W ≤ W') {L : List By} (h : RR W p L) : RR W' p L := by
  have hf : ∀ v ∈ L, fstW W' v = fstW W v := fun v hv => fstW_w hW (h.vp v hv).2 (h.nz hv)
  refine ⟨fun v hv => (h.vp v hv).mono hW, fun r hr => ?_, ?_⟩
  · have := h.ld r hr
    rw [hf r hr]
    exact ⟨by omega, this.2⟩
  · refine List.Pairwise.imp_of_mem ?_ h.st
    intro a b ha hb hab
    rw [hf a ha, hf b hb]
    exact hab
theorem SpE.up (hp : 1 ≤ p) (hp2 : p ≤ 256) (hW : W ≤ W') {A B : List By} (hA : ∀ v ∈ A, Vp W p v) (hB : ∀ v ∈ B, Vp W p v) (h : SpE W p A B) : SpE W' p A B :=
  fun v => ⟨fun q => ((h v).1 (q.w1 hp hp2 hW hA)).w2 hp hp2 hW hB, fun q => ((h v).2 (q.w1 hp hp2 hW hB)).w2 hp hp2 hW hA⟩
end
theorem SY.ext {m0 : Nat} {H G : List Blk} {s m : Nat} {p n0 : Int} {R : List By} {T : List Int} (h : SY m0 H s p n0 m R T) (e : Ext H G) : SY m0 G s p n0 m R T := by
  obtain ⟨ra, As, pa, hs, hra, hR, hpa, hnd, hge⟩ := h
  exact ⟨ra, As, pa, e _ _ hs, hra.fr (l := []) e.fr (by simp), hR.fr (l := []) e.fr (by simp), hpa.fr (l := []) e.fr (by simp), hnd, hge⟩
end Hf
namespace Hf
open Go Classical
variable {P : Program} {ρ : Nat → FuncId}
/-- a slice whose block is none of the first m, or that is full -/
def VF (m : Nat) (H : List Blk) (a : At) (L : List By) : Prop :=
  ∃ k off cap N f, a = .sl k off L.length cap ∧ H[k]? = some ⟨false, .by [] N f⟩ ∧ (off + cap * 8 ≤ N ∧ L.length ≤ cap ∧ (m ≤ k ∨ L.length = cap)) ∧ ∀ i x, i < L.length → x < 8 → f (off + i * 8 + x) = (L.getD i z0) x
theorem VF.vs {m : Nat} {H : List Blk} {a : At} {L : List By} (h : VF m H a L) : VS H a L := by
  obtain ⟨k, off, cap, N, f, h1, h2, h3, h4⟩ := h
  exact .inr ⟨k, off, cap, false, N, f, h1, h2, ⟨h3.1, h3.2.1⟩, h4⟩
theorem VF.ext {m : Nat} {H H' : List Blk} {a : At} {L : List By} (h : VF m H a L) (e : Ext H H') : VF m H' a L := by
  obtain ⟨k, off, cap, N, f, h1, h2, h3, h4⟩ := h
  exact ⟨k, off, cap, N, f, h1, e k _ h2, h3, h4⟩
theorem VF.nil {m : Nat} {H : List Blk} {f : By} : VF m (H ++ [⟨false, .by [] (0 * 8) f⟩]) (.sl H.length 0 0 0) [] :=
  ⟨H.length, 0, 0, _, f, rfl, get_new, ⟨by omega, by simp, .inr rfl⟩, fun i x h => by simp at h⟩
theorem take_getD {L : List By} {i : Nat} (h : i < L.length) : L.take (i + 1) = L.take i ++ [L.getD i z0] := by rw [List.take_add_one]; simp [h]
theorem redL_snoc {p : Int} {L : List By} {v : By} : redL p (L ++ [v]) = putL p (redL p L) v := by simp [redL, List.foldl_append]
theorem s_l01Reduce_ok (B : Bs P ρ) (E : F_s_l01Reduce P ρ) {H : List Blk} {p : Int} {a : At} {L : List By} (hp : Pr p) (hL : VS H a L) (hv : ∀ v ∈ L, Vp 8 p v) (hlen : L.length ≤ 1000000) :
    CallR P ρ 270 [.i .i64 p, a] H (fun u G => ∃ b, u = .one b ∧ Ext H G ∧ VS G b (redL p L)) := by
  have hp2 := hp.1
  have hp3 := hp.2.1
  refine call_of_q B.fn B.mo E.1 rfl (fun hAr hHp => ?_) (by simp only [List.all_cons, List.all_nil, hL.lt]; rfl)
  refine ⟨_, rfl, ?_⟩
  refine ⟨At, (fun a0 a1 (i0 : Nat) (x0 : At) => [(0, a0), (1, a1), (5, .one x0), (6, .one (.i .i64 ((i0 : Nat) : Int)))]) _ _ , fun (i0 : Nat) (x0 : At) (G0 : List Blk) => (VS G0 x0 (redL p (L.take i0)) ∧ Ext H G0), L.length, ⟨_, ⟨(VW.nil (m := 0) (Nat.zero_le _)).vs, Ext.app⟩, ⟨rfl, rfl, rfl, rfl, trivial⟩⟩, ?_⟩
  rintro i0 x0 G0 hi0 ⟨hV0, hE0⟩
  refine ⟨_, (hL).len, ?_⟩
  refine ⟨fun h11 => ?_, fun h11 => ?_⟩
  · replace h11 := of_decide_eq_true h11
    obtain ⟨k18, o18, n18, c18, q18, ea18, hl18, hq18, r18, N18, f18, hk18, hN18, hf18⟩ := (hL.ext hE0).at i0 (by omega)
    refine ⟨k18, o18, n18, c18, i0, q18, ea18, rfl, hl18, hq18, ?_⟩
    refine ⟨_, _, _, _, _, hk18, ⟨by simp, hN18⟩, hf18, ?_⟩
    have hr := (redL_rr hp fun v h => hv v (List.mem_of_mem_take (i := i0) h)).1
    have hrl := hr.len
    refine ⟨_, s_l01Put_ok B E.2 (by omega) (by omega) hV0 hr.fs (by omega), ?_⟩
    rintro _ G20 ⟨b20, rfl, hE20, hV20⟩
    refine ⟨((i0 + 1 : Nat) : Int), w64_id _ (by omega) (by omega), ?_⟩
    refine ⟨by omega, _, ?_, ⟨rfl, rfl, rfl, rfl, trivial⟩⟩
    dsimp only
    rw [take_getD (by omega), redL_snoc]
    exact ⟨hV20, hE0.trans hE20⟩
  · replace h11 := of_decide_eq_false h11
    have e0 : L.length = i0 := by omega
    subst e0
    exact ⟨rfl, x0, rfl, hE0, by rw [List.take_length] at hV0; exact hV0⟩

end Hf
namespace Hf
open Go Classical
variable {P : Program} {ρ : Nat → FuncId}
theorem i_Hopf_span_ok (B : Bs P ρ) (E : F_i_Hopf_span P ρ) {H : List Blk} {k : Nat} {r : Bool} {p n : Int} {f : By} {a : At} {L : List By} (hk : H[k]? = some ⟨r, .by [p, n] 1106 f⟩) (hp : Pr p) (hL : VS H a L) (hv : ∀ v ∈ L, Vp 8 p v) (hlen : L.length ≤ 1000000) :
    CallR P ρ 261 [.pt k 0, a] H (fun u G => ∃ b, u = .one b ∧ Ext H G ∧ VW H.length G b (redL p L)) := by
  refine call_of_q B.fn B.mo E.1 rfl (fun hAr hHp => ?_) (by simp only [List.all_cons, List.all_nil, hL.lt]; simp [At.lt, lt_of hk])
  refine ⟨_, _, hk, rfl, ?_⟩
  refine ⟨_, i_reduced_ok B E.2 hp hL hv hlen, ?_⟩
  rintro _ G10 ⟨b, rfl, hE, hV⟩
  exact ⟨rfl, b, rfl, hE, hV⟩

theorem oc_0 {q : Prop} (h : oc q 1 = 0) : q := by
  apply Classical.byContradiction
  intro hq
  rw [oc_f hq] at h
  cases h
theorem rows8_vp {p : Int} {g : By} (h : ∀ x, x < 64 → bz g x < p) (hp : 1 ≤ p) : ∀ v ∈ rows8 g, Vp 8 p v := by
  intro v hv
  obtain ⟨i, hi, rfl⟩ := List.mem_map.1 hv
  have hi := List.mem_range.1 hi
  refine ⟨fun x => ?_, fun x hx => if_neg (by omega)⟩
  unfold bz rw8
  split
  · exact h _ (by omega)
  · simp; omega
theorem trT_lt {p : Int} {g : By} (h : ∀ x, x < 64 → bz g x < p) : ∀ x, x < 64 → bz (trT g) x < p := by
  intro x hx
  have e : trT g x = g (x % 8 * 8 + x / 8) := by
    have := trT_app (F := g) (a := x / 8) (b := x % 8) (by omega) (by omega)
    rwa [show x / 8 * 8 + x % 8 = x by omega] at this
  unfold bz
  rw [e]; exact h _ (by omega)
-- left out: i_LegsOf
end Hf
namespace Hf
open Go Classical
variable {P : Program} {ρ : Nat → FuncId}
def IQ (p n d : Int) (g f : By) : Prop := Hop p n f ∧ Mod p n.toNat d g f
end Hf
namespace Hf
open Go Classical
variable {P : Program} {ρ : Nat → FuncId}
theorem all_getD {L : List By} {q : By → Prop} : (∀ v ∈ L, q v) ↔ ∀ i, i < L.length → q (L.getD i z0) :=
  ⟨fun h i hi => h _ (getD_mem hi), fun h v hv => by
    obtain ⟨i, hi, rfl⟩ := List.mem_iff_getElem.1 hv
    have := h i hi
    rwa [List.getD_eq_getElem?_getD, List.getElem?_eq_getElem hi] at this⟩
/-- a module and vectors of it -/
def SQ (p n d : Int) (g f : By) (L : List By) : Prop := IQ p n d g f ∧ ∀ v ∈ L, Vec p d v 0
theorem SQ.vp {p n : Int} {d : Nat} {g f : By} {L : List By} (h : SQ p n d g f L) (hz : ∀ v ∈ L, ∀ x, 8 ≤ x → v x = 0) : ∀ v ∈ L, Vp d p v := by
  intro v hv
  have hp2 := h.1.1.1.1.1.1
  have hd : d ≤ 8 := by have := h.1.2.1.1.2.2; omega
  refine ⟨fun x => ?_, fun x hx => ?_⟩
  · rcases Nat.lt_or_ge x 8 with h8 | h8
    · have := (h.2 v hv x h8).1; rwa [Nat.zero_add] at this
    · rw [bz_eq0.2 (hz v hv x h8)]; omega
  · rcases Nat.lt_or_ge x 8 with h8 | h8
    · have := (h.2 v hv x h8).2 (by omega)
      rw [Nat.zero_add] at this
      exact bz_eq0.1 this
    · exact hz v hv x h8
end Hf
namespace Hf
open Go Classical
variable {P : Program} {ρ : Nat → FuncId}
/-- a list that the input brings along: its block may hold other things too -/
def VA (H : List Blk) (a : At) (L : List By) : Prop :=
  (a = .sn ∧ L = []) ∨ ∃ k off cap r cs fz, a = .sl k off L.length cap ∧ H[k]? = some ⟨r, .fo cs fz⟩ ∧ ∀ i x, i < L.length → x < 8 → cs[off + i * 8 + x]? = some (.int .u8 ((((L.getD i z0) x).toNat : Nat) : Int))
theorem VA.ext {H H' : List Blk} {a : At} {L : List By} (h : VA H a L) (e : Ext H H') : VA H' a L := by
  rcases h with h | ⟨k, off, cap, r, cs, fz, h1, h2, h3⟩
  · exact .inl h
  · exact .inr ⟨k, off, cap, r, cs, fz, h1, e k _ h2, h3⟩
theorem VA.lt {H : List Blk} {a : At} {L : List By} (h : VA H a L) : a.lt H.length = true := by
  rcases h with ⟨rfl, -⟩ | ⟨k, off, cap, r, cs, fz, rfl, h2, h3⟩
  · rfl
  · simp [At.lt, lt_of h2]
theorem VA.len {H : List Blk} {a : At} {L : List By} (h : VA H a L) : lenA a = some L.length := by
  rcases h with ⟨rfl, rfl⟩ | ⟨k, off, cap, r, cs, fz, rfl, -⟩ <;> rfl
theorem VA.at {H : List Blk} {a : At} {L : List By} (h : VA H a L) (i : Nat) (hi : i < L.length) :
    ∃ k off len cap q, a = .sl k off len cap ∧ i < len ∧ off + i * 8 = q ∧ ∃ r cs fz, H[k]? = some ⟨r, .fo cs fz⟩ ∧ ∀ y, y < 8 → cs[q + y]? = some (.int .u8 ((((L.getD i z0) y).toNat : Nat) : Int)) := by
  rcases h with ⟨rfl, rfl⟩ | ⟨k, off, cap, r, cs, fz, rfl, h2, h3⟩
  · simp at hi
  · exact ⟨k, off, L.length, cap, off + i * 8, rfl, hi, rfl, r, cs, fz, h2, fun y hy => h3 i y hi hy⟩
/-- room behind a list of n -/
def room (n : Nat) : Nat := if n % 6 = 5 then 0 else if n % 3 = 0 then 1 else n
theorem room_le {n : Nat} : room n ≤ n + 1 := by unfold room; split <;> (try split) <;> omega
def v201 : By := fun x => if x = 0 then 201 else 0
/-- a list and what stands behind it -/
def extL (L : List By) : List By := L ++ List.replicate (room L.length) v201
theorem extL_len {L : List By} : (extL L).length = L.length + room L.length := by simp [extL]
theorem extL_at {L : List By} {i : Nat} : (extL L).getD i z0 = if i < L.length then L.getD i z0 else if i < L.length + room L.length then v201 else z0 := by
  unfold extL
  rw [getD_app]
  split
  · rfl
  · rename_i h
    split
    · rename_i h2
      rw [List.getD_eq_getElem?_getD, List.getElem?_replicate, if_pos (by omega)]; rfl
    · rename_i h2
      rw [List.getD_eq_getElem?_getD, List.getElem?_replicate, if_neg (by omega)]; rfl
/-- an argument as the laws lay it: from the m-th block on, and room behind it -/
def VT (m : Nat) (H : List Blk) (a : At) (L : List By) : Prop :=
  ∃ k f, a = .sl k 0 L.length (L.length + room L.length) ∧ H[k]? = some ⟨false, .by [] ((L.length + room L.length) * 8) f⟩ ∧ m ≤ k ∧ ∀ i x, i < L.length + room L.length → x < 8 → f (i * 8 + x) = ((extL L).getD i z0) x
theorem VT.vw {m : Nat} {H : List Blk} {a : At} {L : List By} (h : VT m H a L) : VW m H a L := by
  obtain ⟨k, f, rfl, h2, h3, h4⟩ := h
  refine ⟨k, 0, _, _, f, rfl, h2, ⟨by omega, by omega, h3⟩, fun i x hi hx => ?_⟩
  rw [Nat.zero_add, h4 i x (by omega) hx, extL_at, if_pos hi]
theorem VT.vs {m : Nat} {H : List Blk} {a : At} {L : List By} (h : VT m H a L) : VS H a L := h.vw.vs
theorem VT.ext {m : Nat} {H H' : List Blk} {a : At} {L : List By} (h : VT m H a L) (e : Ext H H') : VT m H' a L := by
  obtain ⟨k, f, rfl, h2, h3, h4⟩ := h
  exact ⟨k, f, rfl, e _ _ h2, h3, h4⟩
theorem vt_full {H : List Blk} {L : List By} {k N : Nat} {f : By} (hN : N = L.length + room L.length) (hk : H[k]? = some ⟨false, .by [] ((L.length + room L.length) * 8) f⟩) (hf : ∀ i x, i < L.length + room L.length → x < 8 → f (i * 8 + x) = ((extL L).getD i z0) x) :
    VS H (.sl k (if N = 0 then 0 else 0 + 0 * 8) (N - 0) (N - 0)) (extL L) := by
  have e : (if N = 0 then 0 else 0 + 0 * 8) = 0 := by split <;> rfl
  rw [e]
  refine .inr ⟨k, 0, N - 0, false, _, f, by rw [extL_len, hN]; rfl, hk, ⟨by omega, by rw [extL_len]; omega⟩, fun i x hi hx => ?_⟩
  rw [extL_len] at hi
  rw [Nat.zero_add, hf i x hi hx]
theorem l_roomBehind_ok (B : Bs P ρ) (E : F_l_roomBehind P ρ) {n : Nat} (hn : n ≤ 4611686018427387904) :
    CallOK P ρ 364 [.i .i64 (n : Int)] [] (.one (.i .i64 ((room n : Nat) : Int))) [] := by
  refine (CallR.pure (call_of_q B.fn B.mo E rfl (fun _ _ => ?_) rfl) rfl).ok
  refine ⟨by omega, _, rfl, ?_⟩
  refine ⟨fun h5 => ?_, fun h5 => ?_⟩
  · replace h5 := eq_of_beq h5
    have e5 : n % 6 = 5 := by have h : ((n % 6 : Nat) : Int) = 5 := (Int.ofNat_tmod n 6).trans h5; omega
    exact ⟨rfl, by unfold room; rw [if_pos e5]; rfl, Ext.nil⟩
  · replace h5 := ne_of_beq_false h5
    have e5 : ¬ n % 6 = 5 := by have h : ¬ ((n % 6 : Nat) : Int) = 5 := fun q => h5 ((Int.ofNat_tmod n 6).symm.trans q); omega
    refine ⟨by omega, _, rfl, ?_⟩
    refine ⟨fun h8 => ?_, fun h8 => ?_⟩
    · replace h8 := eq_of_beq h8
      have e8 : n % 3 = 0 := by have h : ((n % 3 : Nat) : Int) = 0 := (Int.ofNat_tmod n 3).trans h8; omega
      exact ⟨rfl, by unfold room; rw [if_neg e5, if_pos e8]; rfl, Ext.nil⟩
    · replace h8 := ne_of_beq_false h8
      have e8 : ¬ n % 3 = 0 := by have h : ¬ ((n % 3 : Nat) : Int) = 0 := fun q => h8 ((Int.ofNat_tmod n 3).symm.trans q); omega
      exact ⟨rfl, by unfold room; rw [if_neg e5, if_neg e8]; rfl, Ext.nil⟩

theorem l_toVectorS_ok (B : Bs P ρ) (E : F_l_toVectorS P ρ) {H : List Blk} {a : At} {L : List By} (hL : VA H a L) (hlen : L.length ≤ 1000000) :
    CallR P ρ 349 [a, .b false] H (fun u G => ∃ b, u = .one b ∧ Ext H G ∧ VT H.length G b L) := by
  have hrl := room_le (n := L.length)
  refine call_of_q B.fn B.mo E.1 rfl (fun hAr hHp => ?_) (by simp only [List.all_cons, List.all_nil, hL.lt]; rfl)
  refine brB_f ?_
  refine brB_f ?_
  refine brB_f ?_
  refine brB_f ?_
  refine brB_f ?_
  refine ⟨_, (hL).len, ?_⟩
  refine ⟨_, (hL).len, ?_⟩
  refine ⟨_, l_roomBehind_ok B E.2.1 (n := L.length) (by omega), rfl, ?_⟩
  refine ⟨((L.length + room L.length : Nat) : Int), by rw [Int.natCast_add]; exact w64_id _ (by omega) (by omega), ?_⟩
  refine ⟨_, _, ⟨rfl, by omega, by omega⟩, rfl, ?_⟩
  refine ⟨Unit, (fun a0 a5 (i0 : Nat) (x0 : Unit) => [(0, a0), (5, a5), (6, .one (.i .i64 ((i0 : Nat) : Int)))]) _ _ , fun (i0 : Nat) (x0 : Unit) (G0 : List Blk) => (∃ w, G0 = H ++ [⟨false, .by [] ((L.length + room L.length) * 8) w⟩] ∧ ∀ i x, i < i0 → x < 8 → w (i * 8 + x) = L.getD i z0 x), L.length, ⟨(), ⟨_, rfl, fun i x h => absurd h (by omega)⟩, ⟨rfl, rfl, rfl, trivial⟩⟩, ?_⟩
  rintro i0 _ G0 hi0 ⟨w, rfl, hw⟩
  refine ⟨_, (hL).len, ?_⟩
  refine ⟨fun h24 => ?_, fun h24 => ?_⟩
  · replace h24 := of_decide_eq_true h24
    obtain ⟨k31, o31, n31, c31, q31, ea31, hl31, hq31, r31, C31, Z31, hk31, hf31⟩ := (hL.ext Ext.app).at i0 (by omega)
    refine ⟨k31, o31, n31, c31, i0, q31, ea31, rfl, hl31, hq31, ?_⟩
    refine ⟨_, _, _, _, hk31, hf31, ?_⟩
    refine ⟨_, l_toVector_ok B E.2.2 , rfl, ?_⟩
    refine ⟨_, _, _, _, _, _, rfl, rfl, by omega, rfl, ?_⟩
    refine ⟨_, _, _, get_new, cputs_by (by simp) (by omega), eqBk_rfl, ?_⟩
    rw [app_set0]
    refine ⟨((i0 + 1 : Nat) : Int), w64_id _ (by omega) (by omega), ?_⟩
    refine ⟨by omega, (), ?_, ⟨rfl, rfl, rfl, trivial⟩⟩
    refine ⟨_, rfl, fun i x hi hx => ?_⟩
    simp only [spl]
    by_cases e : i = i0
    · subst e
      rw [if_pos (by omega), show i * 8 + x - (0 + i * 8) = x by omega]
    · rw [if_neg (by omega)]
      exact hw i x (by omega) hx
  · replace h24 := of_decide_eq_false h24
    have e0 : L.length = i0 := by omega
    subst e0
    refine ⟨_, (hL).len, ?_⟩
    refine ⟨Unit, (fun a0 a5 (i1 : Nat) (x1 : Unit) => [(0, a0), (5, a5), (7, .one (.i .i64 ((L.length + i1 : Nat) : Int)))]) _ _ , fun (i1 : Nat) (x1 : Unit) (G1 : List Blk) => (∃ w, G1 = H ++ [⟨false, .by [] ((L.length + room L.length) * 8) w⟩] ∧ ∀ i x, i < L.length + i1 → x < 8 → w (i * 8 + x) = (extL L).getD i z0 x), room L.length, ⟨(), ?_, ⟨rfl, rfl, rfl, trivial⟩⟩, ?_⟩
    · refine ⟨w, rfl, fun i x hi hx => ?_⟩
      rw [extL_at, if_pos (by omega)]
      exact hw i x (by omega) hx
    rintro i1 _ G1 hi1 ⟨w1, rfl, hw1⟩
    refine ⟨_, rfl, ?_⟩
    refine ⟨fun h40 => ?_, fun h40 => ?_⟩
    · replace h40 := of_decide_eq_true h40
      refine ⟨_, _, _, _, _, _, rfl, rfl, by omega, rfl, ?_⟩
      refine ⟨_, _, _, get_new, cputs_by (by simp) (by omega), eqBk_rfl, ?_⟩
      rw [app_set0]
      refine ⟨((L.length + i1 + 1 : Nat) : Int), w64_id _ (by omega) (by omega), ?_⟩
      refine ⟨by omega, (), ?_, ⟨rfl, rfl, rfl, trivial⟩⟩
      refine ⟨_, rfl, fun i x hi hx => ?_⟩
      simp only [spl]
      by_cases e : i = L.length + i1
      · subst e
        rw [if_pos (by omega), extL_at, if_neg (by omega), if_pos (by omega), show (L.length + i1) * 8 + x - (0 + (L.length + i1) * 8) = x by omega]
        unfold v201
        by_cases e0 : x = 0
        · subst e0; rfl
        · simp [upd, e0]
      · rw [if_neg (by omega)]
        exact hw1 i x (by omega) hx
    · replace h40 := of_decide_eq_false h40
      refine ⟨_, (hL).len, ?_⟩
      refine ⟨0, L.length, rfl, rfl, ⟨by omega, by omega⟩, ?_⟩
      refine ⟨rfl, _, rfl, Ext.app, ⟨H.length, w1, ?_, get_new, Nat.le_refl _, fun i x hi hx => hw1 i x (by omega) hx⟩⟩
      congr 1
      split <;> rfl

theorem l_toVectorS_t_ok (B : Bs P ρ) (E : F_l_toVectorS P ρ) {H : List Blk} {a : At} {L : List By} (hL : VA H a L) (hlen : L.length ≤ 1000000) :
    CallR P ρ 349 [a, .b true] H (fun u G => ∃ b, u = .one b ∧ Ext H G ∧ ((L = [] ∧ b = .sn) ∨ VT H.length G b L)) := by
  have hrl := room_le (n := L.length)
  refine call_of_q B.fn B.mo E.1 rfl (fun hAr hHp => ?_) (by simp only [List.all_cons, List.all_nil, hL.lt]; rfl)
  refine brB_t ?_
  refine brB_t ?_
  refine ⟨_, (hL).len, ?_⟩
  refine brB_t ?_
  refine brB_t ?_
  refine ⟨fun h13 => ?_, fun h13 => ?_⟩
  · replace h13 := eq_of_beq h13
    refine ⟨rfl, .sn, rfl, Ext.refl, .inl ⟨List.length_eq_zero_iff.1 (by omega), rfl⟩⟩
  · replace h13 := ne_of_beq_false h13
    refine ⟨_, (hL).len, ?_⟩
    refine ⟨_, (hL).len, ?_⟩
    refine ⟨_, l_roomBehind_ok B E.2.1 (n := L.length) (by omega), rfl, ?_⟩
    refine ⟨((L.length + room L.length : Nat) : Int), by rw [Int.natCast_add]; exact w64_id _ (by omega) (by omega), ?_⟩
    refine ⟨_, _, ⟨rfl, by omega, by omega⟩, rfl, ?_⟩
    refine ⟨Unit, (fun a0 a5 (i0 : Nat) (x0 : Unit) => [(0, a0), (5, a5), (6, .one (.i .i64 ((i0 : Nat) : Int)))]) _ _ , fun (i0 : Nat) (x0 : Unit) (G0 : List Blk) => (∃ w, G0 = H ++ [⟨false, .by [] ((L.length + room L.length) * 8) w⟩] ∧ ∀ i x, i < i0 → x < 8 → w (i * 8 + x) = L.getD i z0 x), L.length, ⟨(), ⟨_, rfl, fun i x h => absurd h (by omega)⟩, ⟨rfl, rfl, rfl, trivial⟩⟩, ?_⟩
    rintro i0 _ G0 hi0 ⟨w, rfl, hw⟩
    refine ⟨_, (hL).len, ?_⟩
    refine ⟨fun h24 => ?_, fun h24 => ?_⟩
    · replace h24 := of_decide_eq_true h24
      obtain ⟨k31, o31, n31, c31, q31, ea31, hl31, hq31, r31, C31, Z31, hk31, hf31⟩ := (hL.ext Ext.app).at i0 (by omega)
      refine ⟨k31, o31, n31, c31, i0, q31, ea31, rfl, hl31, hq31, ?_⟩
      refine ⟨_, _, _, _, hk31, hf31, ?_⟩
      refine ⟨_, l_toVector_ok B E.2.2 , rfl, ?_⟩
      refine ⟨_, _, _, _, _, _, rfl, rfl, by omega, rfl, ?_⟩
      refine ⟨_, _, _, get_new, cputs_by (by simp) (by omega), eqBk_rfl, ?_⟩
      rw [app_set0]
      refine ⟨((i0 + 1 : Nat) : Int), w64_id _ (by omega) (by omega), ?_⟩
      refine ⟨by omega, (), ?_, ⟨rfl, rfl, rfl, trivial⟩⟩
      refine ⟨_, rfl, fun i x hi hx => ?_⟩
      simp only [spl]
      by_cases e : i = i0
      · subst e
        rw [if_pos (by omega), show i * 8 + x - (0 + i * 8) = x by omega]
      · rw [if_neg (by omega)]
        exact hw i x (by omega) hx
    · replace h24 := of_decide_eq_false h24
      have e0 : L.length = i0 := by omega
      subst e0
      refine ⟨_, (hL).len, ?_⟩
      refine ⟨Unit, (fun a0 a5 (i1 : Nat) (x1 : Unit) => [(0, a0), (5, a5), (7, .one (.i .i64 ((L.length + i1 : Nat) : Int)))]) _ _ , fun (i1 : Nat) (x1 : Unit) (G1 : List Blk) => (∃ w, G1 = H ++ [⟨false, .by [] ((L.length + room L.length) * 8) w⟩] ∧ ∀ i x, i < L.length + i1 → x < 8 → w (i * 8 + x) = (extL L).getD i z0 x), room L.length, ⟨(), ?_, ⟨rfl, rfl, rfl, trivial⟩⟩, ?_⟩
      · refine ⟨w, rfl, fun i x hi hx => ?_⟩
        rw [extL_at, if_pos (by omega)]
        exact hw i x (by omega) hx
      rintro i1 _ G1 hi1 ⟨w1, rfl, hw1⟩
      refine ⟨_, rfl, ?_⟩
      refine ⟨fun h40 => ?_, fun h40 => ?_⟩
      · replace h40 := of_decide_eq_true h40
        refine ⟨_, _, _, _, _, _, rfl, rfl, by omega, rfl, ?_⟩
        refine ⟨_, _, _, get_new, cputs_by (by simp) (by omega), eqBk_rfl, ?_⟩
        rw [app_set0]
        refine ⟨((L.length + i1 + 1 : Nat) : Int), w64_id _ (by omega) (by omega), ?_⟩
        refine ⟨by omega, (), ?_, ⟨rfl, rfl, rfl, trivial⟩⟩
        refine ⟨_, rfl, fun i x hi hx => ?_⟩
        simp only [spl]
        by_cases e : i = L.length + i1
        · subst e
          rw [if_pos (by omega), extL_at, if_neg (by omega), if_pos (by omega), show (L.length + i1) * 8 + x - (0 + (L.length + i1) * 8) = x by omega]
          unfold v201
          by_cases e0 : x = 0
          · subst e0; rfl
          · simp [upd, e0]
        · rw [if_neg (by omega)]
          exact hw1 i x (by omega) hx
      · replace h40 := of_decide_eq_false h40
        refine ⟨_, (hL).len, ?_⟩
        refine ⟨0, L.length, rfl, rfl, ⟨by omega, by omega⟩, ?_⟩
        refine ⟨rfl, _, rfl, Ext.app, .inr ⟨H.length, w1, ?_, get_new, Nat.le_refl _, fun i x hi hx => hw1 i x (by omega) hx⟩⟩
        congr 1
        split <;> rfl

theorem l_szVectorS_ok (B : Bs P ρ) (E : F_l_szVectorS P ρ) {H : List Blk} {a : At} {L : List By} (hL : VA H a L) (hlen : L.length ≤ 9223372036854775807) :
    CallR P ρ 348 [a, .i .i64 1000000] H (fun u G => u = .one (.i .i64 (if L.length ≤ 1000000 then 1000000 - (L.length : Int) else -1)) ∧ G = H) := by
  refine call_of_q B.fn B.mo E rfl (fun hAr hHp => ?_) (by simp only [List.all_cons, List.all_nil, hL.lt]; rfl)
  refine ⟨_, (hL).len, ?_⟩
  refine ⟨_, w64_id _ (by omega) (by omega), ?_⟩
  refine ⟨fun h10 => ?_, fun h10 => ?_⟩
  · replace h10 := of_decide_eq_true h10
    exact ⟨rfl, by rw [if_neg (by omega)]; rfl, rfl⟩
  · replace h10 := of_decide_eq_false h10
    exact ⟨rfl, by rw [if_pos (by omega)]; rfl, rfl⟩

theorem l_intactVectorS_ok (B : Bs P ρ) (E : F_l_intactVectorS P ρ) {H : List Blk} {a b : At} {L : List By} {m1 m2 : Nat} (hA : VT m1 H a L) (hB : VT m2 H b L) (hlen : L.length ≤ 1000000) :
    CallR P ρ 352 [a, b] H (fun u G => u = .one (.b true) ∧ G = H) := by
  have lA := hA.vs.lt
  have lB := hB.vs.lt
  have hrl := room_le (n := L.length)
  obtain ⟨k1, f1, rfl, hk1, -, hf1⟩ := hA
  obtain ⟨k2, f2, rfl, hk2, -, hf2⟩ := hB
  refine call_of_q B.fn B.mo E.1 rfl (fun hAr hHp => ?_) (by simp only [List.all_cons, List.all_nil, lA, lB]; rfl)
  refine ⟨_, rfl, ?_⟩
  refine ⟨_, rfl, ?_⟩
  refine ⟨_, l_roomBehind_ok B E.2.1 (n := L.length) (by omega), rfl, ?_⟩
  refine ⟨((L.length + room L.length : Nat) : Int), by rw [Int.natCast_add]; exact w64_id _ (by omega) (by omega), ?_⟩
  refine ⟨_, rfl, ?_⟩
  refine ⟨_, rfl, ?_⟩
  refine ⟨fun h17 => ?_, fun h17 => ?_⟩
  · replace h17 := eq_of_beq h17
    refine brB_t ?_
    refine brB_t ?_
    refine ⟨0, L.length + room L.length, rfl, rfl, ⟨by omega, by omega⟩, ?_⟩
    refine brB_t ?_
    refine brB_t ?_
    refine brB_t ?_
    refine ⟨0, L.length + room L.length, rfl, rfl, ⟨by omega, by omega⟩, ?_⟩
    refine brB_t ?_
    refine ⟨_, l_eqVectorS_ok B E.2.2 (L := extL L) (vt_full rfl hk1 hf1) (vt_full rfl hk2 hf2) (by rw [extL_len]; omega), ?_⟩
    rintro _ _ ⟨rfl, rfl⟩
    refine brB_t ?_
    exact ⟨rfl, rfl, rfl⟩
  · replace h17 := ne_of_beq_false h17
    exact absurd rfl h17

end Hf
namespace Hf
open Go Classical
section
variable {W n : Nat} {p : Int}
def dt (n : Nat) (u v : By) : Int := sm n fun i => bz u i * bz v i
theorem dt_add (hp : 1 ≤ p) (hp2 : p ≤ 256) (hn : n ≤ W) {r u w : By} {k : Int} : cg p (dt n r (addW W p u w k)) (dt n r u + k * dt n r w) := by
  refine (cg_sm (y := fun i => bz r i * bz u i + k * (bz r i * bz w i)) fun i hi => (cg_mul cg.rfl' (cg_add' hp hp2 (by omega))).trans (cg_of_eq (by grind))).trans (cg_of_eq ?_)
  rw [sm_add, sm_mul]; rfl
theorem dt_add' (hp : 1 ≤ p) (hp2 : p ≤ 256) (hn : n ≤ W) {r u w : By} {k : Int} : cg p (dt n (addW W p u w k) r) (dt n u r + k * dt n w r) := by
  refine (cg_sm (y := fun i => bz u i * bz r i + k * (bz w i * bz r i)) fun i hi => (cg_mul (cg_add' hp hp2 (by omega)) cg.rfl').trans (cg_of_eq (by grind))).trans (cg_of_eq ?_)
  rw [sm_add, sm_mul]; rfl
theorem dt_z {r : By} : dt n r z0 = 0 := sm_zero fun i _ => by rw [bz_z0, Int.mul_zero]
theorem dt_z' {r : By} : dt n z0 r = 0 := sm_zero fun i _ => by rw [bz_z0, Int.zero_mul]
/-- a solution of the equations E -/
def KerD (n : Nat) (p : Int) (E : List By) (v : By) : Prop := Vp n p v ∧ ∀ e ∈ E, cg p (dt n e v) 0
theorem KerD.sp (hp : 1 ≤ p) (hp2 : p ≤ 256) (hn : n ≤ W) {E : List By} {v : By} (h : KerD n p E v) {u : By} (hu : Sp' W p E u) : cg p (dt n u v) 0 := by
  induction hu with
  | z => rw [dt_z']; rfl
  | a h1 h2 ih =>
    refine (dt_add' hp hp2 hn).trans ((cg_add ih (cg_mul cg.rfl' (h.2 _ h2))).trans (cg_of_eq (by simp)))
theorem KerD.eq (hp : 1 ≤ p) (hp2 : p ≤ 256) (hn : n ≤ W) {E R : List By} (h : SpE W p R E) (hE : ∀ e ∈ E, Vp W p e) (hR : ∀ e ∈ R, Vp W p e) {v : By} : KerD n p E v ↔ KerD n p R v :=
  ⟨fun q => ⟨q.1, fun r hr => q.sp hp hp2 hn ((h r).1 (.mem hp hp2 hr (hR r hr)))⟩, fun q => ⟨q.1, fun r hr => q.sp hp hp2 hn ((h r).2 (.mem hp hp2 hr (hE r hr)))⟩⟩
theorem KerD.add (hp : 1 ≤ p) (hp2 : p ≤ 256) {E : List By} {u w : By} {k : Int} (hu : KerD n p E u) (hw : KerD n p E w) : KerD n p E (addW n p u w k) :=
  ⟨Vp.add hp hp2, fun e he => (dt_add hp hp2 (Nat.le_refl _)).trans ((cg_add (hu.2 e he) (cg_mul cg.rfl' (hw.2 e he))).trans (cg_of_eq (by simp)))⟩
theorem KerD.z (hp : 1 ≤ p) {E : List By} : KerD n p E z0 := ⟨Vp.z hp, fun e _ => by rw [dt_z]; rfl⟩
theorem KerD.of (hp : 1 ≤ p) (hp2 : p ≤ 256) (hn : n ≤ W) {E L : List By} (h : ∀ u ∈ L, KerD n p E u) {v : By} (hv : Sp' W p L v) : KerD n p E v := by
  induction hv with
  | z => exact .z hp
  | a h1 h2 ih => rw [addW_w hn ih.1 (h _ h2).1]; exact ih.add hp hp2 (h _ h2)

end
end Hf
namespace Hf
open Go Classical
section
variable {p : Int}
/-- the first entries are 1, and the later ones have 0 there -/
structure HR (W : Nat) (p : Int) (L : List By) : Prop where
  vp : ∀ r ∈ L, Vp W p r
  ld : ∀ r ∈ L, fstW W r < W ∧ r (fstW W r) = 1
  st : L.Pairwise fun a b => b (fstW W a) = 0
variable {W : Nat}
theorem HR.tl {r : By} {L : List By} (h : HR W p (r :: L)) : HR W p L := ⟨fun q hq => h.vp q (by simp [hq]), fun q hq => h.ld q (by simp [hq]), (List.pairwise_cons.1 h.st).2⟩
theorem byW1_self (hp : 1 ≤ p) (hp2 : p ≤ 256) {r : By} (hv : Vp W p r) (h1 : r (fstW W r) = 1) : byW1 W p r r = z0 := by
  rw [byW1_add hp hp2 hv]
  refine (Vp.add hp hp2).ext (Vp.z hp) fun x hx => (cg_add' hp hp2 hx).trans (cg_of_eq ?_)
  rw [one_bz h1, bz_z0]; omega
theorem byW1_at (hp : 1 ≤ p) (hp2 : p ≤ 256) {v r : By} {y : Nat} (hv : Vp W p v) (h : r y = 0) : byW1 W p v r y = v y := by
  rw [byW1_add hp hp2 hv]
  by_cases hy : y < W
  · apply bz_inj
    show bz _ y = bz v y
    rw [bz_add hp hp2 hy, bz_eq0.2 h, Int.mul_zero, Int.add_zero]
    have := hv.1 y
    exact Int.emod_eq_of_lt (by unfold bz; omega) this
  · rw [(Vp.add hp hp2).2 y (by omega), hv.2 y (by omega)]
theorem byW1_lead (hp : 1 ≤ p) (hp2 : p ≤ 256) {v r : By} (hv : Vp W p v) (hr : fstW W r < W ∧ r (fstW W r) = 1) : byW1 W p v r (fstW W r) = 0 := by
  rw [byW1_add hp hp2 hv]
  apply bz_eq0.1
  rw [bz_add hp hp2 hr.1, one_bz hr.2, Int.mul_one, Int.add_right_neg]
  exact Int.zero_emod p
theorem byW_at (hp : 1 ≤ p) (hp2 : p ≤ 256) {y : Nat} : ∀ {L : List By} {v : By}, Vp W p v → (∀ r ∈ L, r y = 0) → byW W p v L y = v y
  | [], _, _, _ => rfl
  | r :: L, v, hv, h => by
    show byW W p (byW1 W p v r) L y = v y
    rw [byW_at hp hp2 (byW1_vp hp hp2 hv) fun q hq => h q (by simp [hq]), byW1_at hp hp2 hv (h r (by simp))]
theorem HR.left (hp : 1 ≤ p) (hp2 : p ≤ 256) : ∀ {L : List By} {v : By}, HR W p L → Vp W p v → ∀ r ∈ L, byW W p v L (fstW W r) = 0
  | [], _, _, _, r, hr => by simp at hr
  | q :: L, v, h, hv, r, hr => by
    show byW W p (byW1 W p v q) L (fstW W r) = 0
    rcases List.mem_cons.1 hr with rfl | hr
    · rw [byW_at hp hp2 (byW1_vp hp hp2 hv) (List.pairwise_cons.1 h.st).1]
      exact byW1_lead hp hp2 hv (h.ld r (by simp))
    · exact h.tl.left hp hp2 (byW1_vp hp hp2 hv) r hr
theorem HR.kill (hp : 1 ≤ p) (hp2 : p ≤ 256) : ∀ {L : List By}, HR W p L → ∀ w ∈ L, byW W p w L = z0
  | [], _, w, hw => by simp at hw
  | q :: L, h, w, hw => by
    show byW W p (byW1 W p w q) L = z0
    rcases List.mem_cons.1 hw with rfl | hw
    · rw [byW1_self hp hp2 (h.vp w (by simp)) (h.ld w (by simp)).2]
      exact byW_fix fun r _ => rfl
    · have e : byW1 W p w q = w := by unfold byW1; rw [if_pos ((List.pairwise_cons.1 h.st).1 w hw)]
      rw [e]; exact h.tl.kill hp hp2 w hw
theorem eqB_z8 {v : By} (hv : Vp 8 p v) : eqB 8 v z0 = true ↔ v = z0 := by
  rw [eqB_iff]
  constructor
  · intro h; funext x
    rcases Nat.lt_or_ge x 8 with hx | hx
    · exact h x hx
    · exact hv.2 x hx
  · intro h x _; rw [h]
theorem SpE.one (hp : 1 ≤ p) (hp2 : p ≤ 256) {A B : List By} {u w : By} {k l : Int} (hAB : SpE W p A B) (hA : ∀ a ∈ A, Vp W p a) (hB : ∀ a ∈ B, Vp W p a) (hu : Vp W p u) (hw : Vp W p w) {s s' : By} (hs : Sp' W p A s) (hs' : Sp' W p A s') (h1 : w = addW W p s u k) (h2 : u = addW W p s' w l) :
    SpE W p (A ++ [w]) (B ++ [u]) := by
  have subA : ∀ {C : List By} {v : By}, Sp' W p A v → Sp' W p (A ++ C) v := fun h => h.sub hp hp2 fun r hr => .mem hp hp2 (List.mem_append_left _ hr) (hA r hr)
  have subB : ∀ {C : List By} {v : By}, Sp' W p B v → Sp' W p (B ++ C) v := fun h => h.sub hp hp2 fun r hr => .mem hp hp2 (List.mem_append_left _ hr) (hB r hr)
  refine SpE.of hp hp2 (fun r hr => ?_) (fun r hr => ?_)
  · rcases List.mem_append.1 hr with h | h
    · exact subB ((hAB r).1 (.mem hp hp2 h (hA r h)))
    · rw [List.mem_singleton.1 h, h1]
      exact (subB ((hAB s).1 hs)).add hp hp2 (.mem hp hp2 (by simp) hu)
  · rcases List.mem_append.1 hr with h | h
    · exact subA ((hAB r).2 (.mem hp hp2 h (hB r h)))
    · rw [List.mem_singleton.1 h, h2]
      exact (subA hs').add hp hp2 (.mem hp hp2 (by simp) hw)
theorem Sp'.congr {A B : List By} (h : ∀ r, r ∈ A ↔ r ∈ B) : SpE W p A B := by
  have one : ∀ {A B : List By}, (∀ r, r ∈ A → r ∈ B) → ∀ v, Sp' W p A v → Sp' W p B v := by
    intro A B h v hv
    induction hv with
    | z => exact .z
    | a h1 h2 ih => exact .a ih (h _ h2)
  exact fun v => ⟨one (fun r => (h r).1) v, one (fun r => (h r).2) v⟩

/-! ### what is left over are the solutions -/
theorem HR.app (hp : 1 ≤ p) (hp2 : p ≤ 256) {V Z : List By} (h : HR W p V) (hz : ∀ z ∈ Z, Vp W p z ∧ ∀ r ∈ V, z (fstW W r) = 0) {u : By} (hu : Sp' W p (V ++ Z) u) : Sp' W p Z (byW W p u V) := by
  have hv : ∀ w ∈ V ++ Z, Vp W p w := by
    intro w hw
    rcases List.mem_append.1 hw with h' | h'
    · exact h.vp w h'
    · exact (hz w h').1
  induction hu with
  | z => rw [byW_fix fun r _ => rfl]; exact .z
  | a h1 h2 ih =>
    rename_i u w k
    rw [byW_lin hp hp2 (fun r hr => (h.ld r hr).1) (h1.vp hp hp2) (hv _ h2)]
    rcases List.mem_append.1 h2 with h' | h'
    · rw [h.kill hp hp2 _ h', add_z hp hp2 (byW_vp hp hp2 (h1.vp hp hp2))]; exact ih
    · rw [byW_fix fun r hr => (hz _ h').2 r hr]; exact .a ih h'
end
end Hf
namespace Hf
open Go Classical
section
variable {p : Int} {W n : Nat}
/-- a combination -/
def cmF (n : Nat) (p : Int) (a : Nat → By) (x : By) : By := vec 8 p fun y => sm n fun i => bz x i * bz (a i) y
theorem cmF_vp (hp : 1 ≤ p) (hp2 : p ≤ 256) {a : Nat → By} {x : By} : Vp 8 p (cmF n p a x) := ⟨fun x => bz_vec_lt hp hp2, fun x hx => vec_out hx⟩
theorem cmF_add (hp : 1 ≤ p) (hp2 : p ≤ 256) (hn : n ≤ W) {a : Nat → By} {u w : By} {k : Int} : cmF n p a (addW W p u w k) = addW 8 p (cmF n p a u) (cmF n p a w) k := by
  refine (cmF_vp hp hp2).ext (Vp.add hp hp2) fun y hy => ?_
  refine (cg_vec hp hp2 hy).trans (cg.symm ((cg_add' hp hp2 hy).trans ((cg_add (cg_vec hp hp2 hy) (cg_mul cg.rfl' (cg_vec hp hp2 hy))).trans (cg.symm ?_))))
  rw [← sm_mul, ← sm_add]
  exact cg_sm fun i hi => (cg_mul (cg_add' hp hp2 (by omega)) cg.rfl').trans (cg_of_eq (by grind))
theorem cmF_z {a : Nat → By} : cmF n p a z0 = z0 := vec_zero fun y _ => sm_zero fun i _ => by rw [bz_z0, Int.zero_mul]
end
end Hf
namespace Hf
open Go Classical
section
variable {p : Int} {n d : Nat} {g f : By}
end
theorem nodup_sub : ∀ {A B : List Nat}, A.Nodup → (∀ x ∈ A, x ∈ B) → A.length ≤ B.length ∧ (A.length = B.length → ∀ x ∈ B, x ∈ A)
  | [], B, _, _ => ⟨Nat.zero_le _, fun h x hx => by
    have : B = [] := List.length_eq_zero_iff.1 h.symm
    subst this; cases hx⟩
  | a :: A, B, hn, hs => by
    obtain ⟨h1, h2⟩ := List.nodup_cons.1 hn
    have ha : a ∈ B := hs a (by simp)
    have hle := List.length_erase_of_mem ha
    have hpos : 0 < B.length := List.length_pos_of_mem ha
    obtain ⟨q1, q2⟩ := nodup_sub (A := A) (B := B.erase a) h2 fun x hx => (List.mem_erase_of_ne (by rintro rfl; exact h1 hx)).2 (hs x (by simp [hx]))
    refine ⟨by simp only [List.length_cons]; omega, fun h x hx => ?_⟩
    by_cases e : x = a
    · subst e; simp
    · exact List.mem_cons_of_mem _ (q2 (by simp only [List.length_cons] at h; omega) x ((List.mem_erase_of_ne e).2 hx))
section
variable {p : Int}
/-- a space of the same size that lies in another one -/
theorem RR.same (hp1 : 1 ≤ p) (hp2 : p ≤ 256) {A B : List By} (hA : RR 8 p A) (hB : RR 8 p B) (h : ∀ u ∈ A, Sp' 8 p B u) : A.length ≤ B.length ∧ (A.length = B.length → SpE 8 p A B) := by
  have nA : (A.map (fstW 8)).Nodup := by
    rw [List.nodup_iff_pairwise_ne, List.pairwise_map]
    exact hA.sorted.imp fun h => Nat.ne_of_lt h
  have sub : ∀ x ∈ A.map (fstW 8), x ∈ B.map (fstW 8) := by
    intro x hx
    obtain ⟨u, hu, rfl⟩ := List.mem_map.1 hx
    obtain ⟨b, hb, e⟩ := hB.lead hp1 hp2 (h u hu) (hA.nz hu)
    exact List.mem_map.2 ⟨b, hb, e⟩
  obtain ⟨q1, q2⟩ := nodup_sub nA sub
  simp only [List.length_map] at q1 q2
  refine ⟨q1, fun e => SpE.of hp1 hp2 h fun b hb => ?_⟩
  have hbv := hB.vp b hb
  refine (hA.in_iff hp1 hp2 hbv).2 ?_
  apply Classical.byContradiction
  intro hn
  obtain ⟨s, m1, m2, m3⟩ := byW_sp hp1 hp2 (L := A) (M := A) (v := b) (fun _ h => h) hbv
  have hr : Sp' 8 p B (byW 8 p b A) := by
    rw [m3]
    exact (Sp'.mem hp1 hp2 hb hbv).add hp1 hp2 (m1.sub hp1 hp2 h)
  obtain ⟨c, hc, e2⟩ := hB.lead hp1 hp2 hr hn
  have hcA := q2 e _ (List.mem_map.2 ⟨c, hc, rfl⟩)
  obtain ⟨a, ha, e3⟩ := List.mem_map.1 hcA
  have h0 := hA.left hp1 hp2 hbv a ha
  have hl : fstW 8 (byW 8 p b A) < 8 := by rw [← e2, ← e3]; exact hA.fs a ha
  have := fstW_ne (W := 8) hl
  rw [e3, e2] at h0
  exact this h0
end
end Hf
namespace Hf
open Go Classical
section
variable {p : Int} {n : Nat} {f : By}
def cpV (p : Int) (n : Nat) (f v : By) : By := vec 64 p (cop n f 530 v)
noncomputable def lgL (p : Int) (n : Nat) (f v : By) : List By := rows8 (cpV p n f v) ++ rows8 (trT (cpV p n f v))
def pdV (p : Int) (n : Nat) (f v w : By) : By := vec 8 p (prd n f 10 v w)
def anV (p : Int) (n : Nat) (f v : By) : By := vec 8 p fun y => sm n fun i => bz v i * bz f (1042 + i * 8 + y)
def unV (f : By) : By := fun x => if x < 8 then f (2 + x) else 0
theorem cp_lt (hp : 1 ≤ p) (hp2 : p ≤ 256) {v : By} : ∀ x, x < 64 → bz (cpV p n f v) x < p := fun x _ => bz_vec_lt hp hp2
theorem pd_vp (hp : 1 ≤ p) (hp2 : p ≤ 256) {v w : By} : Vp 8 p (pdV p n f v w) := ⟨fun x => bz_vec_lt hp hp2, fun x hx => vec_out hx⟩
theorem an_vp (hp : 1 ≤ p) (hp2 : p ≤ 256) {v : By} : Vp 8 p (anV p n f v) := ⟨fun x => bz_vec_lt hp hp2, fun x hx => vec_out hx⟩
/-- entries of a coproduct -/
theorem cp_add (hp : 1 ≤ p) (hp2 : p ≤ 256) (hn : n ≤ 8) {u w : By} {k : Int} {x : Nat} (hx : x < 64) : cg p (bz (cpV p n f (addW 8 p u w k)) x) (bz (cpV p n f u) x + k * bz (cpV p n f w) x) := by
  refine (cg_vec hp hp2 hx).trans (cg.symm ((cg_add (cg_vec hp hp2 hx) (cg_mul cg.rfl' (cg_vec hp hp2 hx))).trans (cg.symm ?_)))
  unfold cop
  by_cases h : x / 8 < n
  · rw [if_pos h, if_pos h, if_pos h, ← sm_mul, ← sm_add]
    exact cg_sm fun i hi => (cg_mul (cg_add' hp hp2 (by omega)) cg.rfl').trans (cg_of_eq (by grind))
  · rw [if_neg h, if_neg h, if_neg h]; exact cg_of_eq (by omega)
theorem cp_z : cpV p n f z0 = fun _ => 0 := vec_zero fun y _ => by
  unfold cop
  split
  · exact sm_zero fun i _ => by rw [bz_z0, Int.zero_mul]
  · rfl
theorem row_add (hp : 1 ≤ p) (hp2 : p ≤ 256) (hn : n ≤ 8) {u w : By} {k : Int} {j : Nat} (hj : j < 8) : rw8 (cpV p n f (addW 8 p u w k)) j = addW 8 p (rw8 (cpV p n f u) j) (rw8 (cpV p n f w) j) k := by
  refine (rows8_vp (cp_lt hp hp2) hp _ (List.mem_map_of_mem (List.mem_range.2 hj))).ext (Vp.add hp hp2) fun x hx => ?_
  refine cg.trans ?_ (cg_add' hp hp2 hx).symm
  have e : ∀ g : By, bz (rw8 g j) x = bz g (j * 8 + x) := fun g => by unfold bz rw8; rw [if_pos hx]
  rw [e, e, e]
  exact cp_add hp hp2 hn (by omega)
theorem col_add (hp : 1 ≤ p) (hp2 : p ≤ 256) (hn : n ≤ 8) {u w : By} {k : Int} {j : Nat} (hj : j < 8) : rw8 (trT (cpV p n f (addW 8 p u w k))) j = addW 8 p (rw8 (trT (cpV p n f u)) j) (rw8 (trT (cpV p n f w)) j) k := by
  refine (rows8_vp (trT_lt (cp_lt hp hp2)) hp _ (List.mem_map_of_mem (List.mem_range.2 hj))).ext (Vp.add hp hp2) fun x hx => ?_
  refine cg.trans ?_ (cg_add' hp hp2 hx).symm
  have e : ∀ g : By, bz (rw8 (trT g) j) x = bz g (x * 8 + j) := fun g => by unfold bz rw8; rw [if_pos hx, trT_app hj hx]
  rw [e, e, e]
  exact cp_add hp hp2 hn (by omega)
theorem pd_add_l (hp : 1 ≤ p) (hp2 : p ≤ 256) (hn : n ≤ 8) {u w x : By} {k : Int} : pdV p n f (addW 8 p u w k) x = addW 8 p (pdV p n f u x) (pdV p n f w x) k := by
  refine (pd_vp hp hp2).ext (Vp.add hp hp2) fun y hy => ?_
  refine (cg_vec hp hp2 hy).trans (cg.symm ((cg_add' hp hp2 hy).trans ((cg_add (cg_vec hp hp2 hy) (cg_mul cg.rfl' (cg_vec hp hp2 hy))).trans (cg.symm ?_))))
  unfold prd
  rw [← sm_mul, ← sm_add]
  refine cg_sm fun i hi => ?_
  rw [← sm_mul, ← sm_add]
  exact cg_sm fun j hj => (cg_mul (cg_mul (cg_add' hp hp2 (by omega)) cg.rfl') cg.rfl').trans (cg_of_eq (by grind))
theorem pd_add_r (hp : 1 ≤ p) (hp2 : p ≤ 256) (hn : n ≤ 8) {u w x : By} {k : Int} : pdV p n f x (addW 8 p u w k) = addW 8 p (pdV p n f x u) (pdV p n f x w) k := by
  refine (pd_vp hp hp2).ext (Vp.add hp hp2) fun y hy => ?_
  refine (cg_vec hp hp2 hy).trans (cg.symm ((cg_add' hp hp2 hy).trans ((cg_add (cg_vec hp hp2 hy) (cg_mul cg.rfl' (cg_vec hp hp2 hy))).trans (cg.symm ?_))))
  unfold prd
  rw [← sm_mul, ← sm_add]
  refine cg_sm fun i hi => ?_
  rw [← sm_mul, ← sm_add]
  exact cg_sm fun j hj => (cg_mul (cg_mul cg.rfl' (cg_add' hp hp2 (by omega))) cg.rfl').trans (cg_of_eq (by grind))
theorem pd_z_l {x : By} : pdV p n f z0 x = z0 := vec_zero fun y _ => sm_zero fun i _ => sm_zero fun j _ => by rw [bz_z0, Int.zero_mul, Int.zero_mul]
theorem pd_z_r {x : By} : pdV p n f x z0 = z0 := vec_zero fun y _ => sm_zero fun i _ => sm_zero fun j _ => by rw [bz_z0, Int.mul_zero, Int.zero_mul]
theorem an_add (hp : 1 ≤ p) (hp2 : p ≤ 256) (hn : n ≤ 8) {u w : By} {k : Int} : anV p n f (addW 8 p u w k) = addW 8 p (anV p n f u) (anV p n f w) k := cmF_add hp hp2 hn
theorem an_z : anV p n f z0 = z0 := cmF_z

/-- led into itself -/
def LegC (p : Int) (n : Nat) (f : By) (T : List By) : Prop := ∀ u ∈ T, ∀ w ∈ lgL p n f u, Sp' 8 p T w
def Clo (p : Int) (n : Nat) (f : By) (T : List By) : Prop := Sp' 8 p T (unV f) ∧ (∀ u ∈ T, ∀ w ∈ T, Sp' 8 p T (pdV p n f u w)) ∧ LegC p n f T ∧ ∀ u ∈ T, Sp' 8 p T (anV p n f u)
theorem lg_mem {v w : By} : w ∈ lgL p n f v ↔ ∃ j, j < 8 ∧ (w = rw8 (cpV p n f v) j ∨ w = rw8 (trT (cpV p n f v)) j) := by
  unfold lgL rows8
  rw [List.mem_append]
  constructor
  · rintro (h | h) <;> obtain ⟨j, hj, rfl⟩ := List.mem_map.1 h
    · exact ⟨j, List.mem_range.1 hj, .inl rfl⟩
    · exact ⟨j, List.mem_range.1 hj, .inr rfl⟩
  · rintro ⟨j, hj, rfl | rfl⟩
    · exact .inl (List.mem_map_of_mem (List.mem_range.2 hj))
    · exact .inr (List.mem_map_of_mem (List.mem_range.2 hj))
theorem rw8_0 {j : Nat} : rw8 (fun _ => 0) j = z0 := by funext x; unfold rw8 z0; split <;> rfl
theorem trT_0 : ∀ x, x < 64 → trT (fun _ => 0) x = 0 := by
  intro x hx
  have := trT_app (F := fun _ => 0) (a := x / 8) (b := x % 8) (by omega) (by omega)
  rwa [show x / 8 * 8 + x % 8 = x by omega] at this
theorem rw8_t0 {j : Nat} (hj : j < 8) : rw8 (trT (fun _ => 0)) j = z0 := by
  funext x
  unfold rw8
  split
  · exact trT_0 _ (by omega)
  · rfl
/-- the legs of all of a space -/
theorem leg_sp (hp : 1 ≤ p) (hp2 : p ≤ 256) (hn : n ≤ 8) {S T : List By} (h : ∀ u ∈ S, ∀ w ∈ lgL p n f u, Sp' 8 p T w) {v : By} (hv : Sp' 8 p S v) : ∀ w ∈ lgL p n f v, Sp' 8 p T w := by
  induction hv with
  | z =>
    intro w hw
    obtain ⟨j, hj, rfl | rfl⟩ := lg_mem.1 hw
    · rw [cp_z, rw8_0]; exact .z
    · rw [cp_z, rw8_t0 hj]; exact .z
  | a q1 q2 ih =>
    rename_i u w k
    intro x hx
    obtain ⟨j, hj, rfl | rfl⟩ := lg_mem.1 hx
    · rw [row_add hp hp2 hn hj]
      exact (ih _ (lg_mem.2 ⟨j, hj, .inl rfl⟩)).add hp hp2 (h _ q2 _ (lg_mem.2 ⟨j, hj, .inl rfl⟩))
    · rw [col_add hp hp2 hn hj]
      exact (ih _ (lg_mem.2 ⟨j, hj, .inr rfl⟩)).add hp hp2 (h _ q2 _ (lg_mem.2 ⟨j, hj, .inr rfl⟩))
theorem an_sp (hp : 1 ≤ p) (hp2 : p ≤ 256) (hn : n ≤ 8) {S T : List By} (h : ∀ u ∈ S, Sp' 8 p T (anV p n f u)) {v : By} (hv : Sp' 8 p S v) : Sp' 8 p T (anV p n f v) := by
  induction hv with
  | z => rw [an_z]; exact .z
  | a q1 q2 ih => rw [an_add hp hp2 hn]; exact ih.add hp hp2 (h _ q2)
theorem pd_sp (hp : 1 ≤ p) (hp2 : p ≤ 256) (hn : n ≤ 8) {S S' T : List By} (h : ∀ u ∈ S, ∀ w ∈ S', Sp' 8 p T (pdV p n f u w)) {v w : By} (hv : Sp' 8 p S v) (hw : Sp' 8 p S' w) : Sp' 8 p T (pdV p n f v w) := by
  induction hv with
  | z => rw [pd_z_l]; exact .z
  | a q1 q2 ih =>
    rw [pd_add_l hp hp2 hn]
    refine ih.add hp hp2 ?_
    clear ih
    induction hw with
    | z => rw [pd_z_r]; exact .z
    | a r1 r2 ih2 => rw [pd_add_r hp hp2 hn]; exact ih2.add hp hp2 (h _ q2 _ r2)
/-- what a closed space has is led into it -/
theorem LegC.sp (hp : 1 ≤ p) (hp2 : p ≤ 256) (hn : n ≤ 8) {T : List By} (h : LegC p n f T) {v : By} (hv : Sp' 8 p T v) : ∀ w ∈ lgL p n f v, Sp' 8 p T w := leg_sp hp hp2 hn h hv
/-- closed, told by another list of the same space -/
theorem LegC.eq (hp : 1 ≤ p) (hp2 : p ≤ 256) (hn : n ≤ 8) {S T : List By} (hS : ∀ u ∈ S, Vp 8 p u) (e : SpE 8 p S T) (h : LegC p n f T) : LegC p n f S := fun u hu w hw =>
  (e w).2 (h.sp hp hp2 hn ((e u).1 (.mem hp hp2 hu (hS u hu))) w hw)
theorem Clo.eq (hp : 1 ≤ p) (hp2 : p ≤ 256) (hn : n ≤ 8) {S T : List By} (hS : ∀ u ∈ S, Vp 8 p u) (e : SpE 8 p S T) (h : Clo p n f T) : Clo p n f S := by
  have m : ∀ u ∈ S, Sp' 8 p T u := fun u hu => (e u).1 (.mem hp hp2 hu (hS u hu))
  exact ⟨(e _).2 h.1, fun u hu w hw => (e _).2 (pd_sp hp hp2 hn h.2.1 (m u hu) (m w hw)), h.2.2.1.eq hp hp2 hn hS e, fun u hu => (e _).2 (an_sp hp hp2 hn h.2.2.2 (m u hu))⟩
/-- the least closed space that has a list -/
def Gen (p : Int) (n : Nat) (f : By) (L R : List By) : Prop := RR 8 p R ∧ (∀ u ∈ L, Sp' 8 p R u) ∧ Clo p n f R ∧ ∀ T, Clo p n f T → (∀ u ∈ L, Sp' 8 p T u) → ∀ u ∈ R, Sp' 8 p T u
/-- a reduced list is closed if what it generates is as long -/
theorem Gen.sub (hp : 1 ≤ p) (hp2 : p ≤ 256) (hn : n ≤ 8) {L R : List By} (hL : RR 8 p L) (h : Gen p n f L R) : R.length = L.length ↔ Clo p n f L := by
  obtain ⟨q1, q2⟩ := hL.same hp hp2 h.1 h.2.1
  constructor
  · intro e
    exact h.2.2.1.eq hp hp2 hn hL.vp (q2 e.symm)
  · intro c
    have := (h.1.same hp hp2 hL (h.2.2.2 L c fun u hu => .mem hp hp2 hu (hL.vp u hu))).1
    omega
end
end Hf
namespace Hf
open Go Classical
theorem VS.fr {l : List Nat} {H H' : List Blk} {a : At} {L : List By} (h : VS H a L) (e : Fr l H H') (hn : ∀ k ∈ spB a, k ∉ l) : VS H' a L := by
  rcases h with h | ⟨k, off, cap, r, N, f, rfl, h2, h3, h4⟩
  · exact .inl h
  · exact .inr ⟨k, off, cap, r, N, f, rfl, e _ _ (hn k (by simp [spB])) h2, h3, h4⟩
theorem VW.fr {m : Nat} {l : List Nat} {H H' : List Blk} {a : At} {L : List By} (h : VW m H a L) (e : Fr l H H') (hn : blkOf a ∉ l) : VW m H' a L := by
  obtain ⟨k, off, cap, N, f, rfl, h2, h3, h4⟩ := h
  exact ⟨k, off, cap, N, f, rfl, e _ _ hn h2, h3, h4⟩
theorem VW.lt {m : Nat} {H : List Blk} {a : At} {L : List By} (h : VW m H a L) : blkOf a < H.length := by
  obtain ⟨k, off, cap, N, f, rfl, h2, h3, h4⟩ := h
  exact lt_of h2
theorem VW.sp {m : Nat} {H : List Blk} {a : At} {L : List By} (h : VW m H a L) : spB a = [blkOf a] := by
  obtain ⟨k, off, cap, N, f, rfl, h2, h3, h4⟩ := h
  rfl
end Hf
namespace Hf
open Go Classical
section
variable {p : Int} {n : Nat} {f : By}
/-- a Hopf algebra and vectors of it -/
def HQ (p n : Int) (f : By) (L : List By) : Prop := Hop p n f ∧ ∀ v ∈ L, Vec p n v 0
theorem HQ.vn {L : List By} (h : HQ p (n : Int) f L) (hz : ∀ v ∈ L, ∀ x, 8 ≤ x → v x = 0) : ∀ v ∈ L, Vp n p v := by
  intro v hv
  have hb := h.1.1.b
  have h2 := h.2 v hv
  refine ⟨fun x => ?_, fun x hx => ?_⟩
  · by_cases hx : x < 8
    · have := (h2 x hx).1; rwa [Nat.zero_add] at this
    · unfold bz; rw [hz v hv x (by omega)]; simp; omega
  · by_cases h8 : x < 8
    · have := (h2 x h8).2 (by omega); rw [Nat.zero_add] at this; exact bz_eq0.1 this
    · exact hz v hv x (by omega)
theorem red_vn {m : Nat} (hp : Pr p) (hm : m ≤ 8) {L : List By} (h : ∀ v ∈ L, Vp m p v) : ∀ v ∈ redL p L, Vp m p v := by
  intro v hv
  have hp1 := hp.1
  have hp2 := hp.2.1
  have q := redL_rr hp fun v hv => (h v hv).mono hm
  have := (q.2 v).1 (.mem (by omega) (by omega) hv (q.1.vp v hv))
  exact (this.w1 (by omega) (by omega) hm h).vp (by omega) (by omega)
/-- a reduced list between a list and every closed space that has it -/
structure Mn (C : List By → Prop) (p : Int) (L Y : List By) : Prop where
  rr : RR 8 p Y
  has : ∀ u ∈ L, Sp' 8 p Y u
  le : ∀ T, C T → (∀ u ∈ L, Sp' 8 p T u) → ∀ u ∈ Y, Sp' 8 p T u
/-- what has grown lies before the old, and it is the old if it is as long -/
theorem Mn.grow {C : List By → Prop} (hp : Pr p) {L S Y : List By} (hS : Mn C p L S) (hY : Mn C p L Y) (h : ∀ u, Sp' 8 p S u → Sp' 8 p Y u) : S.length ≤ Y.length ∧ (Y.length = S.length → SpE 8 p S Y) := by
  have hp1 := hp.1
  have hp2 := hp.2.1
  obtain ⟨a, b⟩ := hS.rr.same (by omega) (by omega) hY.rr fun u hu => h u (.mem (by omega) (by omega) hu (hS.rr.vp u hu))
  exact ⟨a, fun e => b e.symm⟩
end
theorem Fr.up {m k : Nat} {H H' : List Blk} (h : Fr [k] H H') (hk : m ≤ k) : Upto m H H' := h.upto fun j hj => by simp at hj; omega
theorem VW.ge {m : Nat} {H : List Blk} {a : At} {L : List By} (h : VW m H a L) : m ≤ blkOf a := by
  obtain ⟨k, off, cap, N, f, rfl, h2, h3, h4⟩ := h
  exact h3.2.2
variable {P : Program} {ρ : Nat → FuncId}
theorem hq_iff {p n : Int} {f g : By} {L : List By} (h : ∀ i x, i < L.length + room L.length → x < 8 → g (i * 8 + x) = ((extL L).getD i z0) x) :
    (Hop p n f ∧ ∀ i, i < L.length → Vec p n g (i * 8)) ↔ (Hop p n f ∧ ∀ v ∈ L, Vec p n v 0) := by
  refine and_congr Iff.rfl ((forall_congr' fun i => ?_).trans all_getD.symm)
  refine forall_congr' fun hi => forall_congr' fun k => forall_congr' fun hk => ?_
  have e : bz g (i * 8 + k) = bz (L.getD i z0) (0 + k) := by
    unfold bz; rw [h i k (by omega) hk, extL_at, if_pos hi, Nat.zero_add]
  rw [e]
theorem code_vt (B : Bs P ρ) (E : E_i_Hopf_code P ρ) {H : List Blk} {k m : Nat} {r : Bool} {p n : Int} {f : By} {a : At} {L : List By} (hk : H[k]? = some ⟨r, .by [p, n] 1106 f⟩) (hL : (L = [] ∧ a = .sn) ∨ VT m H a L) (hlen : L.length ≤ 1000000) :
    CallR P ρ 27 [.pt k 0, a] H fun u G => u = .one (.i .i64 (oc (Hop p n f ∧ ∀ v ∈ L, Vec p n v 0) 1)) ∧ G = H := by
  rcases hL with ⟨rfl, rfl⟩ | ⟨k', g, rfl, hk', -, hg⟩
  · have := CallOK.at1 hk (i_Hopf_code_nil_ok B E (n := n) (p := p) (f := f)) (args := [.pt k 0, .sn]) rfl rfl
    refine this.mono fun v G h => ⟨h.1.trans ?_, h.2⟩
    by_cases q : Hop p n f
    · rw [if_pos q, oc_t ⟨q, by simp⟩]
    · rw [if_neg q, oc_f fun c => q c.1]
  · have hr := room_le (n := L.length)
    have := CallOK.at2 hk hk' (i_Hopf_code_ok B E (n := n) (p := p) (f := f) (l := g) (len := L.length) (cap := L.length + room L.length) (N := (L.length + room L.length) * 8) (by omega) (by omega)) (args := [.pt k 0, .sl k' 0 L.length (L.length + room L.length)]) rfl rfl
    refine this.mono fun v G h => ⟨h.1.trans ?_, h.2⟩
    rw [propext (hq_iff hg)]
theorem codeS_vt (B : Bs P ρ) (E : E_s_l03Code P ρ) {H : List Blk} {m : Nat} {p n : Int} {f : By} {a : At} {L : List By} (hL : VT m H a L) (hlen : L.length ≤ 1000000) :
    CallR P ρ 40 [.ag [p, n] 1106 f, a] H fun u G => u = .one (.i .i64 (oc (Hop p n f ∧ ∀ v ∈ L, Vec p n v 0) 1)) ∧ G = H := by
  obtain ⟨k', g, rfl, hk', -, hg⟩ := hL
  have hr := room_le (n := L.length)
  have := CallOK.at1 hk' (s_l03Code_ok B E (n := n) (p := p) (f := f) (l := g) (len := L.length) (cap := L.length + room L.length) (N := (L.length + room L.length) * 8) (by omega) (by omega)) (args := [.ag [p, n] 1106 f, .sl k' 0 L.length (L.length + room L.length)]) rfl rfl
  refine this.mono fun v G h => ⟨h.1.trans ?_, h.2⟩
  rw [propext (hq_iff hg)]
end Hf
namespace Hf
open Go Classical
variable {P : Program} {ρ : Nat → FuncId}
theorem in_cls {p : Int} (hp : 1 ≤ p) (hp2 : p ≤ 256) {L M : List By} (hR : RR 8 p L) (hM : ∀ v ∈ M, Vp 8 p v) : inL p L M = true ↔ ∀ u ∈ M, Sp' 8 p L u := by
  unfold inL
  rw [List.all_eq_true]
  refine forall_congr' fun u => forall_congr' fun hu => ?_
  rw [hR.in_iff hp hp2 (hM u hu), ← byL_W]
  exact eqB_z8 (by rw [byL_W]; exact byW_vp hp hp2 (hM u hu))
theorem i_Hopf_antipode_ok (B : Bs P ρ) (E : F_i_Hopf_antipode P ρ) {H : List Blk} {k n : Nat} {r : Bool} {p : Int} {f v : By} (hk : H[k]? = some ⟨r, .by [p, (n : Int)] 1106 f⟩) (hp : 1 ≤ p) (hp2 : p ≤ 256) (hn : n ≤ 8) (hv : ∀ j, n ≤ j → j < 8 → bz v j = 0) :
    CallR P ρ 374 [.pt k 0, .ag [] 8 v] H (fun u G => u = .one (.ag [] 8 (anV p n f v)) ∧ G = H) := by
  refine CallR.pure (call_of_q B.fn B.mo E.1 rfl (fun hA hH => ?_) (by simp [At.lt, lt_of hk])) rfl
  refine ⟨_, rfl, ?_⟩
  refine ⟨_, rfl, ?_⟩
  refine ⟨_, _, _, _, v, app_old get_new, ⟨by simp, by omega⟩, fun x _ => congrArg _ (Nat.zero_add x).symm, ?_⟩
  refine ⟨_, CallOK.at1 (app_old (app_old hk)) (i_Hopf_field_ok B E.2.1 (p := p) (n := (n : Int)) (f := f)) rfl rfl, ?_⟩
  rintro _ _ ⟨rfl, rfl⟩
  refine ⟨⟨kept1 (app_old get_new) (app_old get_new), trivial⟩, ?_⟩
  refine ⟨_, CallOK.at1 (app_old (app_old hk)) (i_field_apply_ok B E.2.2 (m := n) (p := p) (n := (n : Int)) (v := v) (f := f) (hd := [p, (n : Int)]) (N := 1106) (off := 1042) hp hp2 (by simp) (by omega) hn hv) rfl rfl, ?_⟩
  rintro _ _ ⟨rfl, rfl⟩
  refine ⟨_, _, _, get_new, cputs_by (by simp) (by omega), eqBk_rfl, ?_⟩
  rw [app_set0]
  refine ⟨rfl, _, _, _, _, anV p n f v, get_new, ⟨by simp, by omega⟩, fun x hx => ?_, rfl, Ext.app.trans Ext.app⟩
  simp [spl, hx, anV]

theorem i_Hopf_holds_ok (B : Bs P ρ) (E : F_i_Hopf_holds P ρ) {H : List Blk} {k : Nat} {r : Bool} {p n : Int} {f : By} {a b : At} {L M : List By} (hk : H[k]? = some ⟨r, .by [p, n] 1106 f⟩) (hp : 1 ≤ p) (hp2 : p ≤ 256) (hL : VS H a L) (hl : ∀ r ∈ L, fst8 r < 8) (hlen : L.length ≤ 1000000) (hM : VS H b M) (hMv : ∀ v ∈ M, ∀ x, x < 8 → bz v x < p) (hMl : M.length ≤ 1000000) :
    CallR P ρ 372 [.pt k 0, a, b] H (fun u G => u = .one (.b (inL p L M)) ∧ G = H) := by
  refine CallR.pure (call_of_q B.fn B.mo E.1 rfl (fun hA hH => ?_) (by simp only [List.all_cons, List.all_nil, hL.lt, hM.lt]; simp [At.lt, lt_of hk])) rfl
  refine ⟨_, _, hk, rfl, ?_⟩
  refine ⟨_, i_within_ok B E.2 hp hp2 hL hl hlen hM hMv hMl, ?_⟩
  rintro _ _ ⟨rfl, rfl⟩
  exact ⟨rfl, rfl, Ext.refl⟩

end Hf
namespace Hf
open Go Classical
variable {P : Program} {ρ : Nat → FuncId}
theorem Clo.an {p : Int} {n : Nat} {f : By} (hp : 1 ≤ p) (hp2 : p ≤ 256) (hn : n ≤ 8) {T : List By} (h : Clo p n f T) {u : By} (hu : Sp' 8 p T u) : Sp' 8 p T (anV p n f u) := an_sp hp hp2 hn h.2.2.2 hu
end Hf
namespace Hf
open Go Classical
variable {P : Program} {ρ : Nat → FuncId}
theorem VS.two {H : List Blk} {v w g : By} (h : ∀ x, x < 8 → g x = v x) (h' : ∀ x, x < 8 → g (8 + x) = w x) : VS (H ++ [⟨false, .by [] (2 * 8) g⟩]) (.sl H.length 0 2 2) [v, w] := by
  refine .inr ⟨H.length, 0, 2, false, _, g, rfl, get_new, ⟨by omega, by simp⟩, fun i x hi hx => ?_⟩
  have hi : i < 2 := by simpa using hi
  match i, hi with
  | 0, _ => rw [show 0 + 0 * 8 + x = x by omega, h x hx]; rfl
  | 1, _ => rw [show 0 + 1 * 8 + x = 8 + x by omega, h' x hx]; rfl
theorem s_l07In_ok (B : Bs P ρ) (E : F_s_l07In P ρ) {H : List Blk} {p : Int} {v : By} {a : At} {L : List By} (hp : 1 ≤ p) (hp2 : p ≤ 256) (hL : VS H a L) (hR : RR 8 p L) (hv : Vp 8 p v) :
    CallR P ρ 375 [.i .i64 p, .ag [] 8 v, a] H (fun u G => u = .one (.b (decide (Sp' 8 p L v))) ∧ G = H) := by
  have hlen := hR.len
  refine CallR.pure (call_of_q B.fn B.mo E.1 rfl (fun hA hH => ?_) (by simp only [List.all_cons, List.all_nil, hL.lt]; rfl)) rfl
  refine ⟨_, rfl, ?_⟩
  refine ⟨_, _, _, _, v, get_new, ⟨by simp, by omega⟩, fun x _ => congrArg _ (Nat.zero_add x).symm, ?_⟩
  refine ⟨_, s_l01By_ok B E.2.1 hp hp2 (hL.ext Ext.app) hR.fs (by omega), ?_⟩
  rintro _ _ ⟨rfl, rfl⟩
  refine ⟨_, s_l01Zero_ok B E.2.2 , rfl, ?_⟩
  refine ⟨rfl, ?_, Ext.app⟩
  rw [show eqB 8 (byL p v L) (fun _ => 0) = decide (Sp' 8 p L v) from by
    rw [Bool.eq_iff_iff, decide_eq_true_iff, hR.in_iff hp hp2 hv, ← byL_W]
    exact eqB_z8 (by rw [byL_W]; exact byW_vp hp hp2 hv)]; rfl

end Hf
namespace Hf
open Go Classical
variable {P : Program} {ρ : Nat → FuncId}
/-! ### both parts of a table reduced -/
noncomputable def rdT (p : Int) (L : List By) (m : By) : By := fun x => if x < 64 then byL p (rw8 m (x / 8)) L (x % 8) else 0
def IdZ (p : Int) (L : List By) (m : By) : Prop := ∀ x, x < 64 → rdT p L (trT (rdT p L m)) x = 0
theorem rdT_at {p : Int} {L : List By} {m : By} {a b : Nat} (ha : a < 8) (hb : b < 8) : rdT p L m (a * 8 + b) = byL p (rw8 m a) L b := by
  unfold rdT
  rw [if_pos (by omega), show (a * 8 + b) / 8 = a by omega, show (a * 8 + b) % 8 = b by omega]
theorem rw8_vp {p : Int} {m : By} (hp : 1 ≤ p) (h : ∀ x, x < 64 → bz m x < p) {a : Nat} (ha : a < 8) : Vp 8 p (rw8 m a) := rows8_vp h hp _ (List.mem_map_of_mem (List.mem_range.2 ha))
theorem rdT_lt {p : Int} {L : List By} {m : By} (hp : 1 ≤ p) (hp2 : p ≤ 256) (h : ∀ x, x < 64 → bz m x < p) : ∀ x, x < 64 → bz (rdT p L m) x < p := by
  intro x hx
  have := (byW_vp (L := L) hp hp2 (rw8_vp hp h (a := x / 8) (by omega))).1 (x % 8)
  unfold bz rdT
  rw [if_pos hx, byL_W]; exact this
theorem rdT_z {p : Int} {n : Nat} {L : List By} {m : By} (hp : 1 ≤ p) (hp2 : p ≤ 256) (hL : ∀ r ∈ L, Vp n p r) (h : ∀ x, x < 64 → bz m x < p) (hz : ∀ j k, j < 8 → k < 8 → n ≤ j ∨ n ≤ k → m (j * 8 + k) = 0) :
    ∀ j k, j < 8 → k < 8 → n ≤ j ∨ n ≤ k → rdT p L m (j * 8 + k) = 0 := by
  intro j k hj hk q
  rw [rdT_at hj hk, byL_W]
  by_cases hjn : n ≤ j
  · have : rw8 m j = z0 := by
      funext x
      unfold rw8
      split
      · exact hz j x hj (by omega) (.inl hjn)
      · rfl
    rw [this, byW_fix fun r hr => rfl]; rfl
  · have hk' : n ≤ k := by omega
    rw [byW_at hp hp2 (rw8_vp hp h hj) fun r hr => (hL r hr).2 k hk']
    unfold rw8; rw [if_pos hk]; exact hz j k hj hk (.inr hk')
noncomputable def tuV (p : Int) (n : Nat) (L : List By) (m : By) (k : Nat) : By := fun j => if j < n ∧ k < n then byL p (rw8 m j) L k else 0
theorem tuV_eq {p : Int} {n : Nat} {L : List By} {m : By} (hp : 1 ≤ p) (hp2 : p ≤ 256) (hn : n ≤ 8) (hL : ∀ r ∈ L, Vp n p r) (h : ∀ x, x < 64 → bz m x < p) (hz : ∀ j k, j < 8 → k < 8 → n ≤ j ∨ n ≤ k → m (j * 8 + k) = 0) {k : Nat} (hk : k < n) :
    tuV p n L m k = rw8 (trT (rdT p L m)) k := by
  funext j
  unfold tuV rw8
  by_cases hj : j < 8
  · rw [if_pos hj, trT_app (by omega) hj]
    by_cases hjn : j < n
    · rw [if_pos ⟨hjn, hk⟩, rdT_at hj (by omega)]; rfl
    · rw [if_neg (by omega), rdT_z hp hp2 hL h hz j k hj (by omega) (.inl (by omega))]
  · rw [if_neg hj, if_neg (by omega)]
theorem idZ_iff {p : Int} {n : Nat} {L : List By} {m o : By} (hp : 1 ≤ p) (hp2 : p ≤ 256) (hn : n ≤ 8) (hL : ∀ r ∈ L, Vp n p r) (h : ∀ x, x < 64 → bz m x < p) (hz : ∀ j k, j < 8 → k < 8 → n ≤ j ∨ n ≤ k → m (j * 8 + k) = 0)
    (ho : ∀ j k, j < 8 → k < 8 → o (j * 8 + k) = if k < n ∧ j < n then byL p (tuV p n L m k) L j else 0) : (∀ x, x < 64 → o x = 0) ↔ IdZ p L m := by
  have h2 : ∀ x, x < 64 → bz (trT (rdT p L m)) x < p := trT_lt (rdT_lt hp hp2 h)
  have hz2 : ∀ j k, j < 8 → k < 8 → n ≤ j ∨ n ≤ k → trT (rdT p L m) (j * 8 + k) = 0 := fun j k hj hk q => by
    rw [trT_app hj hk]; exact rdT_z hp hp2 hL h hz k j hk hj q.symm
  have key : ∀ j k, j < 8 → k < 8 → o (j * 8 + k) = rdT p L (trT (rdT p L m)) (k * 8 + j) := fun j k hj hk => by
    rw [ho j k hj hk]
    by_cases q : k < n ∧ j < n
    · rw [if_pos q, tuV_eq hp hp2 hn hL h hz q.1, rdT_at hk hj]
    · rw [if_neg q, rdT_z hp hp2 hL h2 hz2 k j hk hj (by omega)]
  constructor
  · intro q x hx
    have := key (x % 8) (x / 8) (by omega) (by omega)
    rw [show x / 8 * 8 + x % 8 = x by omega] at this
    rw [← this]; exact q _ (by omega)
  · intro q x hx
    have := key (x / 8) (x % 8) (by omega) (by omega)
    rw [show x / 8 * 8 + x % 8 = x by omega] at this
    rw [this]; exact q _ (by omega)
/-- the blocks of l07Reduced -/
structure RS (H : List Blk) (S M : Blk) (G : List Blk) (o t : By) : Prop where
  s : G[H.length]? = some S
  m : G[H.length + 1]? = some M
  z : G[H.length + 2]? = some ⟨false, .by [] 64 (fun _ => 0)⟩
  o : G[H.length + 3]? = some ⟨false, .by [] 64 o⟩
  t : G[H.length + 4]? = some ⟨false, .by [] 64 t⟩
  x : Ext H G
theorem RS.app {H G : List Blk} {S M : Blk} {o t : By} (h : RS H S M G o t) {l : List Blk} : RS H S M (G ++ l) o t :=
  ⟨app_old h.s, app_old h.m, app_old h.z, app_old h.o, app_old h.t, h.x.trans Ext.app⟩
theorem RS.setT {H G : List Blk} {S M : Blk} {o t t' : By} (h : RS H S M G o t) : RS H S M (G.set (H.length + 4) ⟨false, .by [] 64 t'⟩) o t' :=
  ⟨set_other h.s (by omega), set_other h.m (by omega), set_other h.z (by omega), set_other h.o (by omega), set_same h.t, fun k B e => set_other (h.x k B e) (by have := lt_of e; omega)⟩
theorem RS.setO {H G : List Blk} {S M : Blk} {o t o' : By} (h : RS H S M G o t) : RS H S M (G.set (H.length + 3) ⟨false, .by [] 64 o'⟩) o' t :=
  ⟨set_other h.s (by omega), set_other h.m (by omega), set_other h.z (by omega), set_same h.o, set_other h.t (by omega), fun k B e => set_other (h.x k B e) (by have := lt_of e; omega)⟩
theorem RS.lt {H G : List Blk} {S M : Blk} {o t : By} (h : RS H S M G o t) : H.length + 4 < G.length := lt_of h.t
theorem RS.new {H : List Blk} {S M : Blk} : RS H S M (H ++ [S] ++ [M] ++ [⟨false, .by [] 64 (fun _ => 0)⟩] ++ [⟨false, .by [] 64 (fun _ => 0)⟩] ++ [⟨false, .by [] 64 (fun _ => 0)⟩]) (fun _ => 0) (fun _ => 0) :=
  ⟨by simp, by simp, by simp, by simp, by simp, Ext.app.trans (Ext.app.trans (Ext.app.trans (Ext.app.trans Ext.app)))⟩
theorem upd_at {t : By} {b : UInt8} {k j k1 j1 : Nat} (hj : j < 8) (hj1 : j1 < 8) : upd t (0 + k1 * 8 + j1 * 1) b (k * 8 + j) = if k = k1 ∧ j = j1 then b else t (k * 8 + j) := by
  unfold upd
  by_cases e : k = k1 ∧ j = j1
  · rw [if_pos e, if_pos (by omega)]
  · rw [if_neg e, if_neg (by omega)]
set_option maxHeartbeats 2000000 in
theorem s_l07Reduced_ok (B : Bs P ρ) (E : F_s_l07Reduced P ρ) {H : List Blk} {n : Nat} {p : Int} {f m : By} {a : At} {L : List By} (hp : 1 ≤ p) (hp2 : p ≤ 256) (hn : n ≤ 8) (hL : VS H a L) (hR : RR 8 p L) (hv : ∀ v ∈ L, Vp n p v) (hlt : ∀ x, x < 64 → bz m x < p) (hz : ∀ j k, j < 8 → k < 8 → n ≤ j ∨ n ≤ k → m (j * 8 + k) = 0) :
    CallR P ρ 376 [.ag [p, (n : Int)] 1106 f, .ag [] 64 m, a] H (fun u G => ∃ F, u = .one (.ag [] 64 F) ∧ Ext H G ∧ ((∀ x, x < 64 → F x = 0) ↔ IdZ p L m)) := by
  have hlen := hR.len
  refine call_of_q B.fn B.mo E.1 rfl (fun hAr hHp => ?_) (by simp only [List.all_cons, List.all_nil, hL.lt]; rfl)
  refine ⟨H.length, rfl, ?_⟩
  refine ⟨H.length + 1, by simp, ?_⟩
  refine ⟨H.length + 2, by simp, ?_⟩
  refine ⟨H.length + 3, by simp, ?_⟩
  refine ⟨H.length + 4, by simp, ?_⟩
  have hb : RS H ⟨false, .by [p, (n : Int)] 1106 f⟩ ⟨false, .by [] 64 m⟩ (H ++ [⟨false, .by [p, (n : Int)] 1106 f⟩] ++ [⟨false, .by [] 64 m⟩] ++ [⟨false, .by [] 64 (fun _ => 0)⟩] ++ [⟨false, .by [] 64 (fun _ => 0)⟩] ++ [⟨false, .by [] 64 (fun _ => 0)⟩]) (fun _ => 0) (fun _ => 0) := RS.new
  refine ⟨_, _, _, hb.o, cputs_by (by simp) (by omega), eqBk_rfl, ?_⟩
  have hb1 := hb.setO (o' := spl (fun _ => 0) 0 64 (fun _ => 0))
  refine ⟨_, _, _, hb1.t, cputs_by (by simp) (by omega), eqBk_rfl, ?_⟩
  have hb2 := hb1.setT (t' := spl (fun _ => 0) 0 64 (fun _ => 0))
  refine ⟨Unit, (fun a2 a3 a4 a6 a7 a8 (i0 : Nat) (x0 : Unit) => [(2, a2), (3, a3), (4, a4), (6, a6), (7, a7), (8, a8), (9, .one (.i .i64 ((i0 : Nat) : Int)))]) _ _ _ _ _ _ , fun (i0 : Nat) (x0 : Unit) (G0 : List Blk) => (∃ o t, RS H ⟨false, .by [p, (n : Int)] 1106 f⟩ ⟨false, .by [] 64 m⟩ G0 o t ∧ (∀ x, x < 64 → o x = 0) ∧ ∀ k j, k < 8 → j < 8 → t (k * 8 + j) = if j < i0 then tuV p n L m k j else 0), n, ⟨(), ⟨_, _, hb2, fun x hx => by simp [spl], fun k j hk hj => by rw [if_neg (by omega)]; simp [spl]⟩, ⟨rfl, rfl, rfl, rfl, rfl, rfl, rfl, trivial⟩⟩, ?_⟩
  rintro i0 _ G0 hi0 ⟨o, t, hr0, ho0, ht0⟩
  have hlt0 := hr0.lt
  refine ⟨_, _, hr0.s, rfl, ?_⟩
  refine ⟨fun h20 => ?_, fun h20 => ?_⟩
  · replace h20 := of_decide_eq_true h20
    refine ⟨_, _, hr0.s, rfl, ?_⟩
    refine ⟨i0, _, rfl, by omega, rfl, ?_⟩
    refine ⟨_, _, _, _, rw8 m i0, hr0.m, ⟨by simp, by omega⟩, fun x hx => by unfold rw8; rw [if_pos hx]; exact congrArg m (by omega), ?_⟩
    refine ⟨?_, ?_⟩
    · skip
      refine ⟨_, s_l01By_ok B E.2 hp hp2 (by first | exact hL.ext hr0.x | exact hL.ext (hr0.x.trans Ext.app)) hR.fs (by omega), ?_⟩
      rintro _ G0 ⟨rfl, rfl⟩
      refine ⟨_, rfl, ?_⟩
      refine ⟨⟨by first | exact kept1 hr0.m (app_old hr0.m) | exact kept1 hr0.s (app_old hr0.s), by first | exact kept1 hr0.m (app_old hr0.m) | exact kept1 hr0.s (app_old hr0.s), trivial⟩, ?_⟩
      refine ⟨_, _, _, get_new, cputs_by (by simp) (by omega), eqBk_rfl, ?_⟩
      rw [app_set0]
      refine ⟨Unit, (fun a2 a3 a4 a6 a7 a8 a9 a10 (i1 : Nat) (x1 : Unit) => [(2, a2), (3, a3), (4, a4), (6, a6), (7, a7), (8, a8), (9, a9), (10, a10), (11, .one (.i .i64 ((i1 : Nat) : Int)))]) _ _ _ _ _ _ _ _ , fun (i1 : Nat) (x1 : Unit) (G1 : List Blk) => (∃ t w, RS H ⟨false, .by [p, (n : Int)] 1106 f⟩ ⟨false, .by [] 64 m⟩ G1 o t ∧ G1[G0.length]? = some ⟨false, .by [] 8 w⟩ ∧ (∀ x, x < 8 → w x = byL p (rw8 m i0) L x) ∧ ∀ k j, k < 8 → j < 8 → t (k * 8 + j) = if j < i0 ∨ (j = i0 ∧ k < i1) then tuV p n L m k j else 0), n, ⟨(), ?_, ⟨rfl, rfl, rfl, rfl, rfl, rfl, rfl, rfl, rfl, trivial⟩⟩, ?_⟩
      · refine ⟨t, _, hr0.app, get_new, fun x hx => by simp [spl, hx], fun k j hk hj => ?_⟩
        rw [ht0 k j hk hj]
        by_cases e : j < i0
        · rw [if_pos e, if_pos (.inl e)]
        · rw [if_neg e, if_neg (by omega)]
      rintro i1 _ G1 hi1 ⟨t1, w1, hr1, hw1, hwe1, ht1⟩
      refine ⟨_, _, hr1.s, rfl, ?_⟩
      refine ⟨fun h33 => ?_, fun h33 => ?_⟩
      · replace h33 := of_decide_eq_true h33
        refine ⟨i1, _, rfl, by omega, rfl, ?_⟩
        refine ⟨_, .u (byL p (rw8 m i0) L i1), hw1, (by rw [show 0 + i1 * 1 = i1 by omega, cat_u (by omega), hwe1 i1 (by omega)]), ?_⟩
        refine ⟨i1, _, rfl, by omega, rfl, ?_⟩
        refine ⟨i0, _, rfl, by omega, rfl, ?_⟩
        refine ⟨_, _, _, hr1.t, cput_u (by simp) (by omega), eqBk_rfl, ?_⟩
        refine ⟨((i1 + 1 : Nat) : Int), w64_id _ (by omega) (by omega), ?_⟩
        refine ⟨by omega, (), ?_, ⟨rfl, rfl, rfl, rfl, rfl, rfl, rfl, rfl, rfl, trivial⟩⟩
        refine ⟨_, w1, hr1.setT, set_other hw1 (by omega), hwe1, fun k j hk hj => ?_⟩
        rw [upd_at hj (by omega)]
        by_cases e : k = i1 ∧ j = i0
        · rw [if_pos e, if_pos (by omega)]
          obtain ⟨rfl, rfl⟩ := e
          unfold tuV; rw [if_pos (by omega)]
        · rw [if_neg e, ht1 k j hk hj]
          by_cases q : j < i0 ∨ (j = i0 ∧ k < i1)
          · rw [if_pos q, if_pos (by omega)]
          · rw [if_neg q, if_neg (by omega)]
      · replace h33 := of_decide_eq_false h33
        have e1 : n = i1 := by omega
        subst e1
        refine ⟨((i0 + 1 : Nat) : Int), w64_id _ (by omega) (by omega), ?_⟩
        refine ⟨by omega, (), ?_, ⟨rfl, rfl, rfl, rfl, rfl, rfl, rfl, trivial⟩⟩
        first
          | exact ⟨o, _, hr1, ho0, fun k j hk hj => by
              rw [ht1 k j hk hj]
              by_cases e : j < i0 + 1
              · rw [if_pos e]
                by_cases q : k < n
                · rw [if_pos (by omega)]
                · by_cases q2 : j < i0
                  · rw [if_pos (.inl q2)]
                  · rw [if_neg (by omega)]; unfold tuV; rw [if_neg (by omega)]
              · rw [if_neg e, if_neg (by omega)]⟩
          | exact ⟨o, _, hr2, ho0, fun k j hk hj => by
              rw [ht2 k j hk hj]
              by_cases e : j < i0 + 1
              · rw [if_pos e]
                by_cases q : k < n
                · rw [if_pos (by omega)]
                · by_cases q2 : j < i0
                  · rw [if_pos (.inl q2)]
                  · rw [if_neg (by omega)]; unfold tuV; rw [if_neg (by omega)]
              · rw [if_neg e, if_neg (by omega)]⟩
    · skip
      refine ⟨_, rfl, ?_⟩
      refine ⟨⟨by first | exact kept1 hr0.m (app_old hr0.m) | exact kept1 hr0.s (app_old hr0.s), by first | exact kept1 hr0.m (app_old hr0.m) | exact kept1 hr0.s (app_old hr0.s), trivial⟩, ?_⟩
      refine ⟨_, s_l01By_ok B E.2 hp hp2 (by first | exact hL.ext hr0.x | exact hL.ext (hr0.x.trans Ext.app)) hR.fs (by omega), ?_⟩
      rintro _ G0 ⟨rfl, rfl⟩
      refine ⟨_, _, _, get_new, cputs_by (by simp) (by omega), eqBk_rfl, ?_⟩
      rw [app_set0]
      refine ⟨Unit, (fun a2 a3 a4 a6 a7 a8 a9 a10 (i2 : Nat) (x2 : Unit) => [(2, a2), (3, a3), (4, a4), (6, a6), (7, a7), (8, a8), (9, a9), (10, a10), (11, .one (.i .i64 ((i2 : Nat) : Int)))]) _ _ _ _ _ _ _ _ , fun (i2 : Nat) (x2 : Unit) (G2 : List Blk) => (∃ t w, RS H ⟨false, .by [p, (n : Int)] 1106 f⟩ ⟨false, .by [] 64 m⟩ G2 o t ∧ G2[G0.length]? = some ⟨false, .by [] 8 w⟩ ∧ (∀ x, x < 8 → w x = byL p (rw8 m i0) L x) ∧ ∀ k j, k < 8 → j < 8 → t (k * 8 + j) = if j < i0 ∨ (j = i0 ∧ k < i2) then tuV p n L m k j else 0), n, ⟨(), ?_, ⟨rfl, rfl, rfl, rfl, rfl, rfl, rfl, rfl, rfl, trivial⟩⟩, ?_⟩
      · refine ⟨t, _, hr0.app, get_new, fun x hx => by simp [spl, hx], fun k j hk hj => ?_⟩
        rw [ht0 k j hk hj]
        by_cases e : j < i0
        · rw [if_pos e, if_pos (.inl e)]
        · rw [if_neg e, if_neg (by omega)]
      rintro i2 _ G2 hi2 ⟨t2, w2, hr2, hw2, hwe2, ht2⟩
      refine ⟨_, _, hr2.s, rfl, ?_⟩
      refine ⟨fun h33 => ?_, fun h33 => ?_⟩
      · replace h33 := of_decide_eq_true h33
        refine ⟨i2, _, rfl, by omega, rfl, ?_⟩
        refine ⟨_, .u (byL p (rw8 m i0) L i2), hw2, (by rw [show 0 + i2 * 1 = i2 by omega, cat_u (by omega), hwe2 i2 (by omega)]), ?_⟩
        refine ⟨i2, _, rfl, by omega, rfl, ?_⟩
        refine ⟨i0, _, rfl, by omega, rfl, ?_⟩
        refine ⟨_, _, _, hr2.t, cput_u (by simp) (by omega), eqBk_rfl, ?_⟩
        refine ⟨((i2 + 1 : Nat) : Int), w64_id _ (by omega) (by omega), ?_⟩
        refine ⟨by omega, (), ?_, ⟨rfl, rfl, rfl, rfl, rfl, rfl, rfl, rfl, rfl, trivial⟩⟩
        refine ⟨_, w2, hr2.setT, set_other hw2 (by omega), hwe2, fun k j hk hj => ?_⟩
        rw [upd_at hj (by omega)]
        by_cases e : k = i2 ∧ j = i0
        · rw [if_pos e, if_pos (by omega)]
          obtain ⟨rfl, rfl⟩ := e
          unfold tuV; rw [if_pos (by omega)]
        · rw [if_neg e, ht2 k j hk hj]
          by_cases q : j < i0 ∨ (j = i0 ∧ k < i2)
          · rw [if_pos q, if_pos (by omega)]
          · rw [if_neg q, if_neg (by omega)]
      · replace h33 := of_decide_eq_false h33
        have e2 : n = i2 := by omega
        subst e2
        refine ⟨((i0 + 1 : Nat) : Int), w64_id _ (by omega) (by omega), ?_⟩
        refine ⟨by omega, (), ?_, ⟨rfl, rfl, rfl, rfl, rfl, rfl, rfl, trivial⟩⟩
        first
          | exact ⟨o, _, hr1, ho0, fun k j hk hj => by
              rw [ht1 k j hk hj]
              by_cases e : j < i0 + 1
              · rw [if_pos e]
                by_cases q : k < n
                · rw [if_pos (by omega)]
                · by_cases q2 : j < i0
                  · rw [if_pos (.inl q2)]
                  · rw [if_neg (by omega)]; unfold tuV; rw [if_neg (by omega)]
              · rw [if_neg e, if_neg (by omega)]⟩
          | exact ⟨o, _, hr2, ho0, fun k j hk hj => by
              rw [ht2 k j hk hj]
              by_cases e : j < i0 + 1
              · rw [if_pos e]
                by_cases q : k < n
                · rw [if_pos (by omega)]
                · by_cases q2 : j < i0
                  · rw [if_pos (.inl q2)]
                  · rw [if_neg (by omega)]; unfold tuV; rw [if_neg (by omega)]
              · rw [if_neg e, if_neg (by omega)]⟩
  · replace h20 := of_decide_eq_false h20
    have e0 : n = i0 := by omega
    subst e0
    refine ⟨Unit, (fun a2 a3 a6 a7 a8 (i3 : Nat) (x3 : Unit) => [(2, a2), (3, a3), (6, a6), (7, a7), (8, a8), (12, .one (.i .i64 ((i3 : Nat) : Int)))]) _ _ _ _ _ , fun (i3 : Nat) (x3 : Unit) (G3 : List Blk) => (∃ o, RS H ⟨false, .by [p, (n : Int)] 1106 f⟩ ⟨false, .by [] 64 m⟩ G3 o t ∧ ∀ j k, j < 8 → k < 8 → o (j * 8 + k) = if j < n ∧ k < i3 then byL p (tuV p n L m k) L j else 0), n, ⟨(), ⟨o, hr0, fun j k hj hk => by rw [if_neg (by omega)]; exact ho0 _ (by omega)⟩, ⟨rfl, rfl, rfl, rfl, rfl, rfl, trivial⟩⟩, ?_⟩
    rintro i3 _ G3 hi3 ⟨o3, hr3, ho3⟩
    have hlt3 := hr3.lt
    refine ⟨_, _, hr3.s, rfl, ?_⟩
    refine ⟨fun h46 => ?_, fun h46 => ?_⟩
    · replace h46 := of_decide_eq_true h46
      refine ⟨_, _, hr3.s, rfl, ?_⟩
      refine ⟨i3, _, rfl, by omega, rfl, ?_⟩
      refine ⟨_, _, _, _, tuV p n L m i3, hr3.t, ⟨by simp, by omega⟩, fun x hx => ?_, ?_⟩
      · rw [show 0 + i3 * 8 = i3 * 8 by omega, ht0 i3 x (by omega) hx]
        split
        · rfl
        · unfold tuV; rw [if_neg (by omega)]
      refine ⟨?_, ?_⟩
      · skip
        refine ⟨_, s_l01By_ok B E.2 hp hp2 (by first | exact hL.ext hr3.x | exact hL.ext (hr3.x.trans Ext.app)) hR.fs (by omega), ?_⟩
        rintro _ G3 ⟨rfl, rfl⟩
        refine ⟨_, rfl, ?_⟩
        refine ⟨⟨by first | exact kept1 hr3.t (app_old hr3.t) | exact kept1 hr3.s (app_old hr3.s), by first | exact kept1 hr3.t (app_old hr3.t) | exact kept1 hr3.s (app_old hr3.s), trivial⟩, ?_⟩
        refine ⟨_, _, _, get_new, cputs_by (by simp) (by omega), eqBk_rfl, ?_⟩
        rw [app_set0]
        refine ⟨Unit, (fun a2 a3 a6 a7 a8 a12 a13 (i4 : Nat) (x4 : Unit) => [(2, a2), (3, a3), (6, a6), (7, a7), (8, a8), (12, a12), (13, a13), (14, .one (.i .i64 ((i4 : Nat) : Int)))]) _ _ _ _ _ _ _ , fun (i4 : Nat) (x4 : Unit) (G4 : List Blk) => (∃ o w, RS H ⟨false, .by [p, (n : Int)] 1106 f⟩ ⟨false, .by [] 64 m⟩ G4 o t ∧ G4[G3.length]? = some ⟨false, .by [] 8 w⟩ ∧ (∀ x, x < 8 → w x = byL p (tuV p n L m i3) L x) ∧ ∀ j k, j < 8 → k < 8 → o (j * 8 + k) = if j < n ∧ (k < i3 ∨ (k = i3 ∧ j < i4)) then byL p (tuV p n L m k) L j else 0), n, ⟨(), ?_, ⟨rfl, rfl, rfl, rfl, rfl, rfl, rfl, rfl, trivial⟩⟩, ?_⟩
        · refine ⟨o3, _, hr3.app, get_new, fun x hx => by simp [spl, hx], fun j k hj hk => ?_⟩
          rw [ho3 j k hj hk]
          by_cases e : j < n ∧ k < i3
          · rw [if_pos e, if_pos (by omega)]
          · rw [if_neg e, if_neg (by omega)]
        rintro i4 _ G4 hi4 ⟨o4, w4, hr4, hw4, hwe4, ho4⟩
        refine ⟨_, _, hr4.s, rfl, ?_⟩
        refine ⟨fun h59 => ?_, fun h59 => ?_⟩
        · replace h59 := of_decide_eq_true h59
          refine ⟨i4, _, rfl, by omega, rfl, ?_⟩
          refine ⟨_, .u (byL p (tuV p n L m i3) L i4), hw4, (by rw [show 0 + i4 * 1 = i4 by omega, cat_u (by omega), hwe4 i4 (by omega)]), ?_⟩
          refine ⟨i4, _, rfl, by omega, rfl, ?_⟩
          refine ⟨i3, _, rfl, by omega, rfl, ?_⟩
          refine ⟨_, _, _, hr4.o, cput_u (by simp) (by omega), eqBk_rfl, ?_⟩
          refine ⟨((i4 + 1 : Nat) : Int), w64_id _ (by omega) (by omega), ?_⟩
          refine ⟨by omega, (), ?_, ⟨rfl, rfl, rfl, rfl, rfl, rfl, rfl, rfl, trivial⟩⟩
          refine ⟨_, w4, hr4.setO, set_other hw4 (by omega), hwe4, fun j k hj hk => ?_⟩
          rw [upd_at hk (by omega)]
          by_cases e : j = i4 ∧ k = i3
          · rw [if_pos e, if_pos (by omega)]
            obtain ⟨rfl, rfl⟩ := e
            rfl
          · rw [if_neg e, ho4 j k hj hk]
            by_cases q : j < n ∧ (k < i3 ∨ (k = i3 ∧ j < i4))
            · rw [if_pos q, if_pos (by omega)]
            · rw [if_neg q, if_neg (by omega)]
        · replace h59 := of_decide_eq_false h59
          have e4 : n = i4 := by omega
          subst e4
          refine ⟨((i3 + 1 : Nat) : Int), w64_id _ (by omega) (by omega), ?_⟩
          refine ⟨by omega, (), ?_, ⟨rfl, rfl, rfl, rfl, rfl, rfl, trivial⟩⟩
          first
            | exact ⟨_, hr4, fun j k hj hk => by
                rw [ho4 j k hj hk]
                by_cases e : j < n ∧ k < i3 + 1
                · rw [if_pos e, if_pos (by omega)]
                · rw [if_neg e, if_neg (by omega)]⟩
            | exact ⟨_, hr5, fun j k hj hk => by
                rw [ho5 j k hj hk]
                by_cases e : j < n ∧ k < i3 + 1
                · rw [if_pos e, if_pos (by omega)]
                · rw [if_neg e, if_neg (by omega)]⟩
      · skip
        refine ⟨_, rfl, ?_⟩
        refine ⟨⟨by first | exact kept1 hr3.t (app_old hr3.t) | exact kept1 hr3.s (app_old hr3.s), by first | exact kept1 hr3.t (app_old hr3.t) | exact kept1 hr3.s (app_old hr3.s), trivial⟩, ?_⟩
        refine ⟨_, s_l01By_ok B E.2 hp hp2 (by first | exact hL.ext hr3.x | exact hL.ext (hr3.x.trans Ext.app)) hR.fs (by omega), ?_⟩
        rintro _ G3 ⟨rfl, rfl⟩
        refine ⟨_, _, _, get_new, cputs_by (by simp) (by omega), eqBk_rfl, ?_⟩
        rw [app_set0]
        refine ⟨Unit, (fun a2 a3 a6 a7 a8 a12 a13 (i5 : Nat) (x5 : Unit) => [(2, a2), (3, a3), (6, a6), (7, a7), (8, a8), (12, a12), (13, a13), (14, .one (.i .i64 ((i5 : Nat) : Int)))]) _ _ _ _ _ _ _ , fun (i5 : Nat) (x5 : Unit) (G5 : List Blk) => (∃ o w, RS H ⟨false, .by [p, (n : Int)] 1106 f⟩ ⟨false, .by [] 64 m⟩ G5 o t ∧ G5[G3.length]? = some ⟨false, .by [] 8 w⟩ ∧ (∀ x, x < 8 → w x = byL p (tuV p n L m i3) L x) ∧ ∀ j k, j < 8 → k < 8 → o (j * 8 + k) = if j < n ∧ (k < i3 ∨ (k = i3 ∧ j < i5)) then byL p (tuV p n L m k) L j else 0), n, ⟨(), ?_, ⟨rfl, rfl, rfl, rfl, rfl, rfl, rfl, rfl, trivial⟩⟩, ?_⟩
        · refine ⟨o3, _, hr3.app, get_new, fun x hx => by simp [spl, hx], fun j k hj hk => ?_⟩
          rw [ho3 j k hj hk]
          by_cases e : j < n ∧ k < i3
          · rw [if_pos e, if_pos (by omega)]
          · rw [if_neg e, if_neg (by omega)]
        rintro i5 _ G5 hi5 ⟨o5, w5, hr5, hw5, hwe5, ho5⟩
        refine ⟨_, _, hr5.s, rfl, ?_⟩
        refine ⟨fun h59 => ?_, fun h59 => ?_⟩
        · replace h59 := of_decide_eq_true h59
          refine ⟨i5, _, rfl, by omega, rfl, ?_⟩
          refine ⟨_, .u (byL p (tuV p n L m i3) L i5), hw5, (by rw [show 0 + i5 * 1 = i5 by omega, cat_u (by omega), hwe5 i5 (by omega)]), ?_⟩
          refine ⟨i5, _, rfl, by omega, rfl, ?_⟩
          refine ⟨i3, _, rfl, by omega, rfl, ?_⟩
          refine ⟨_, _, _, hr5.o, cput_u (by simp) (by omega), eqBk_rfl, ?_⟩
          refine ⟨((i5 + 1 : Nat) : Int), w64_id _ (by omega) (by omega), ?_⟩
          refine ⟨by omega, (), ?_, ⟨rfl, rfl, rfl, rfl, rfl, rfl, rfl, rfl, trivial⟩⟩
          refine ⟨_, w5, hr5.setO, set_other hw5 (by omega), hwe5, fun j k hj hk => ?_⟩
          rw [upd_at hk (by omega)]
          by_cases e : j = i5 ∧ k = i3
          · rw [if_pos e, if_pos (by omega)]
            obtain ⟨rfl, rfl⟩ := e
            rfl
          · rw [if_neg e, ho5 j k hj hk]
            by_cases q : j < n ∧ (k < i3 ∨ (k = i3 ∧ j < i5))
            · rw [if_pos q, if_pos (by omega)]
            · rw [if_neg q, if_neg (by omega)]
        · replace h59 := of_decide_eq_false h59
          have e5 : n = i5 := by omega
          subst e5
          refine ⟨((i3 + 1 : Nat) : Int), w64_id _ (by omega) (by omega), ?_⟩
          refine ⟨by omega, (), ?_, ⟨rfl, rfl, rfl, rfl, rfl, rfl, trivial⟩⟩
          first
            | exact ⟨_, hr4, fun j k hj hk => by
                rw [ho4 j k hj hk]
                by_cases e : j < n ∧ k < i3 + 1
                · rw [if_pos e, if_pos (by omega)]
                · rw [if_neg e, if_neg (by omega)]⟩
            | exact ⟨_, hr5, fun j k hj hk => by
                rw [ho5 j k hj hk]
                by_cases e : j < n ∧ k < i3 + 1
                · rw [if_pos e, if_pos (by omega)]
                · rw [if_neg e, if_neg (by omega)]⟩
    · replace h46 := of_decide_eq_false h46
      have e3 : n = i3 := by omega
      subst e3
      refine ⟨_, _, _, _, o3, hr3.o, ⟨by simp, by omega⟩, fun x _ => congrArg _ (Nat.zero_add x).symm, ?_⟩
      refine ⟨_, _, _, hr3.z, cputs_by (by simp) (by omega), eqBk_rfl, ?_⟩
      refine ⟨rfl, _, _, _, _, o3, set_same hr3.z, ⟨by simp, by omega⟩, fun x hx => by simp [spl, hx], o3, rfl, fun k B e => set_other (hr3.x k B e) (by have := lt_of e; omega), ?_⟩
      refine idZ_iff hp hp2 hn hv hlt hz fun j k hj hk => ?_
      rw [ho3 j k hj hk]
      by_cases e : k < n ∧ j < n
      · rw [if_pos e, if_pos (by omega)]
      · rw [if_neg e, if_neg (by omega)]

end Hf
namespace Hf
open Go Classical
variable {P : Program} {ρ : Nat → FuncId}
structure R3 (H : List Blk) (S : Blk) (G : List Blk) (w : By) : Prop where
  s : G[H.length]? = some S
  w : G[H.length + 1]? = some ⟨false, .by [] 64 w⟩
  z : G[H.length + 2]? = some ⟨false, .by [] 64 (fun _ => 0)⟩
  x : Ext H G
theorem R3.set {H G : List Blk} {S : Blk} {w w' : By} (h : R3 H S G w) : R3 H S (G.set (H.length + 1) ⟨false, .by [] 64 w'⟩) w' :=
  ⟨set_other h.s (by omega), set_same h.w, set_other h.z (by omega), fun k B e => set_other (h.x k B e) (by have := lt_of e; omega)⟩
theorem R3.new {H : List Blk} {S : Blk} {w : By} : R3 H S (H ++ [S] ++ [⟨false, .by [] 64 w⟩] ++ [⟨false, .by [] 64 (fun _ => 0)⟩]) w :=
  ⟨by simp, by simp, by simp, Ext.app.trans (Ext.app.trans Ext.app)⟩
theorem rdT_row {p : Int} {L : List By} {m w : By} {i : Nat} (hw : ∀ j x, j < 8 → x < 8 → w (j * 8 + x) = if j < i then rdT p L m (j * 8 + x) else m (j * 8 + x)) (hi : i < 8) :
    ∀ j x, j < 8 → x < 8 → spl w (0 + i * 8) 8 (byL p (rw8 m i) L) (j * 8 + x) = if j < i + 1 then rdT p L m (j * 8 + x) else m (j * 8 + x) := by
  intro j x hj hx
  simp only [spl]
  by_cases e : j = i
  · subst e
    rw [if_pos (by omega), if_pos (by omega), rdT_at hj hx, show j * 8 + x - (0 + j * 8) = x by omega]
  · rw [if_neg (by omega), hw j x hj hx]
    by_cases q : j < i
    · rw [if_pos q, if_pos (by omega)]
    · rw [if_neg q, if_neg (by omega)]
theorem all64 {q : Nat → Prop} : (∀ j x, j < 8 → x < 8 → q (j * 8 + x)) → ∀ x, x < 64 → q x := fun h x hx => by
  have := h (x / 8) (x % 8) (by omega) (by omega)
  rwa [show x / 8 * 8 + x % 8 = x by omega] at this
set_option maxHeartbeats 1000000 in
theorem i_field_restTable_ok (B : Bs P ρ) (E : F_i_field_restTable P ρ) {H : List Blk} {n : Int} {p : Int} {g m : By} {a : At} {L : List By} (hp : 1 ≤ p) (hp2 : p ≤ 256) (hL : VS H a L) (hR : RR 8 p L) (hlt : ∀ x, x < 64 → bz m x < p) :
    CallR P ρ 377 [.ag [p, n] 2 g, a, .ag [] 64 m] H (fun u G => ∃ F, u = .one (.ag [] 64 F) ∧ Ext H G ∧ ((∀ x, x < 64 → F x = 0) ↔ IdZ p L m)) := by
  have hlen := hR.len
  have hl2 : ∀ x, x < 64 → bz (trT (rdT p L m)) x < p := trT_lt (rdT_lt hp hp2 hlt)
  refine call_of_q B.fn B.mo E.1 rfl (fun hAr hHp => ?_) (by simp only [List.all_cons, List.all_nil, hL.lt]; rfl)
  refine ⟨H.length, rfl, ?_⟩
  refine ⟨H.length + 1, by simp, ?_⟩
  refine ⟨H.length + 2, by simp, ?_⟩
  refine ⟨Unit, (fun a1 a3 a5 a6 (i0 : Nat) (x0 : Unit) => [(1, a1), (3, a3), (5, a5), (6, a6), (9, .one (.i .i64 ((i0 : Nat) : Int)))]) _ _ _ _ , fun (i0 : Nat) (x0 : Unit) (G0 : List Blk) => (∃ w, R3 H ⟨false, .by [p, n] 2 g⟩ G0 w ∧ ∀ j x, j < 8 → x < 8 → w (j * 8 + x) = if j < i0 then rdT p L m (j * 8 + x) else m (j * 8 + x)), 8, ⟨(), ⟨m, R3.new, fun j x _ _ => by rw [if_neg (by omega)]⟩, ⟨rfl, rfl, rfl, rfl, rfl, trivial⟩⟩, ?_⟩
  rintro i0 _ G0 hi0 ⟨w0, hr0, hw0⟩
  refine ⟨fun h10 => ?_, fun h10 => ?_⟩
  · replace h10 := of_decide_eq_true h10
    refine .inl ⟨_, _, _, _, hr0.s, ⟨rfl, by omega⟩, ?_⟩
    refine ⟨i0, _, rfl, by omega, rfl, ?_⟩
    refine ⟨_, _, _, _, rw8 m i0, hr0.w, ⟨by simp, by omega⟩, fun x hx => ?_, ?_⟩
    · rw [show 0 + i0 * 8 + x = i0 * 8 + x by omega, hw0 i0 x (by omega) hx, if_neg (by omega)]
      unfold rw8; rw [if_pos hx]
    refine ⟨_, i_field_rest_ok B E.2.1 hp hp2 (fun x _ => (rw8_vp hp hlt (by omega)).1 x) (hL.ext hr0.x) hR.fs (by omega), ?_⟩
    rintro _ G0 ⟨rfl, rfl⟩
    refine ⟨i0, _, rfl, by omega, rfl, ?_⟩
    refine ⟨_, _, _, hr0.w, cputs_by (by simp) (by omega), eqBk_rfl, ?_⟩
    refine ⟨((i0 + 1 : Nat) : Int), w64_id _ (by omega) (by omega), ?_⟩
    exact ⟨by omega, (), ⟨_, hr0.set, rdT_row hw0 (by omega)⟩, ⟨rfl, rfl, rfl, rfl, rfl, trivial⟩⟩
  · replace h10 := of_decide_eq_false h10
    have e0 : 8 = i0 := by omega
    subst e0
    have hwe : ∀ x, x < 64 → w0 x = rdT p L m x := all64 fun j x hj hx => by rw [hw0 j x hj hx, if_pos hj]
    refine ⟨_, CallOK.at1 hr0.w (i_transposed_ok B E.2.2 (F := w0)) rfl rfl, ?_⟩
    rintro _ _ ⟨rfl, rfl⟩
    refine ⟨_, _, _, hr0.w, cputs_by (by simp) (by omega), eqBk_rfl, ?_⟩
    refine ⟨Unit, (fun a1 a3 a5 a6 (i1 : Nat) (x1 : Unit) => [(1, a1), (3, a3), (5, a5), (6, a6), (22, .one (.i .i64 ((i1 : Nat) : Int)))]) _ _ _ _ , fun (i1 : Nat) (x1 : Unit) (G1 : List Blk) => (∃ w, R3 H ⟨false, .by [p, n] 2 g⟩ G1 w ∧ ∀ j x, j < 8 → x < 8 → w (j * 8 + x) = if j < i1 then rdT p L (trT (rdT p L m)) (j * 8 + x) else trT (rdT p L m) (j * 8 + x)), 8, ⟨(), ?_, ⟨rfl, rfl, rfl, rfl, rfl, trivial⟩⟩, ?_⟩
    · refine ⟨_, hr0.set, fun j x hj hx => ?_⟩
      rw [if_neg (by omega), trT_app hj hx, ← hwe _ (by omega)]
      simp only [spl]
      rw [if_pos (by omega), show j * 8 + x - 0 = j * 8 + x by omega, trT_app hj hx]
    rintro i1 _ G1 hi1 ⟨w1, hr1, hw1⟩
    refine ⟨fun h23 => ?_, fun h23 => ?_⟩
    · replace h23 := of_decide_eq_true h23
      refine .inl ⟨_, _, _, _, hr1.s, ⟨rfl, by omega⟩, ?_⟩
      refine ⟨i1, _, rfl, by omega, rfl, ?_⟩
      refine ⟨_, _, _, _, rw8 (trT (rdT p L m)) i1, hr1.w, ⟨by simp, by omega⟩, fun x hx => ?_, ?_⟩
      · rw [show 0 + i1 * 8 + x = i1 * 8 + x by omega, hw1 i1 x (by omega) hx, if_neg (by omega)]
        unfold rw8; rw [if_pos hx]
      refine ⟨_, i_field_rest_ok B E.2.1 hp hp2 (fun x _ => (rw8_vp hp hl2 (by omega)).1 x) (hL.ext hr1.x) hR.fs (by omega), ?_⟩
      rintro _ G1 ⟨rfl, rfl⟩
      refine ⟨i1, _, rfl, by omega, rfl, ?_⟩
      refine ⟨_, _, _, hr1.w, cputs_by (by simp) (by omega), eqBk_rfl, ?_⟩
      refine ⟨((i1 + 1 : Nat) : Int), w64_id _ (by omega) (by omega), ?_⟩
      exact ⟨by omega, (), ⟨_, hr1.set, rdT_row hw1 (by omega)⟩, ⟨rfl, rfl, rfl, rfl, rfl, trivial⟩⟩
    · replace h23 := of_decide_eq_false h23
      have e1 : 8 = i1 := by omega
      subst e1
      have hwe1 : ∀ x, x < 64 → w1 x = rdT p L (trT (rdT p L m)) x := all64 fun j x hj hx => by rw [hw1 j x hj hx, if_pos hj]
      refine ⟨_, CallOK.at1 hr1.w (i_transposed_ok B E.2.2 (F := w1)) rfl rfl, ?_⟩
      rintro _ _ ⟨rfl, rfl⟩
      refine ⟨_, _, _, hr1.z, cputs_by (by simp) (by omega), eqBk_rfl, ?_⟩
      refine ⟨rfl, _, _, _, _, trT w1, set_same hr1.z, ⟨by simp, by omega⟩, fun x hx => by simp [spl, hx], _, rfl, fun k B e => set_other (hr1.x k B e) (by have := lt_of e; omega), ?_⟩
      constructor
      · intro q x hx
        rw [← hwe1 x hx]
        have := q (x % 8 * 8 + x / 8) (by omega)
        rwa [trT_app (by omega) (by omega), show x / 8 * 8 + x % 8 = x by omega] at this
      · intro q
        refine all64 fun j x hj hx => ?_
        rw [trT_app hj hx, hwe1 _ (by omega)]
        exact q _ (by omega)

end Hf
namespace Hf
open Go Classical
variable {P : Program} {ρ : Nat → FuncId}
theorem ctu_8 {p : Int} {n : Nat} {f v : By} (h : HShp p n f) : ctu n f v = sm 8 fun j => bz f (522 + j) * bz v j := by
  obtain ⟨-, -, -, h8⟩ := h.b
  exact (sm_8n h8 fun i h1 h2 => by rw [h.cou h1 h2, Int.zero_mul]).symm
end Hf
namespace Hf
open Go Classical
variable {P : Program} {ρ : Nat → FuncId}
/-- what a vector of a Hopf ideal has to answer to -/
def IdlV (p : Int) (n : Nat) (f : By) (L : List By) (v : By) : Prop := ctu n f v % p = 0 ∧ Sp' 8 p L (anV p n f v) ∧ (∀ k, k < n → Sp' 8 p L (pdV p n f v (bas k)) ∧ Sp' 8 p L (pdV p n f (bas k) v)) ∧ IdZ p L (cpV p n f v)
def IdlC (p : Int) (n : Nat) (f : By) (L : List By) : Prop := ∀ j, j < L.length → IdlV p n f L (L.getD j z0)
theorem pd_vp2 {p : Int} {n : Nat} {f v : By} {i : Nat} (hp : 1 ≤ p) (hp2 : p ≤ 256) : ∀ u ∈ [pdV p n f v (bas i), pdV p n f (bas i) v], Vp 8 p u := by
  intro u hu
  simp only [List.mem_cons, List.not_mem_nil, or_false] at hu
  rcases hu with rfl | rfl <;> exact pd_vp hp hp2
theorem in_two' {p : Int} {n : Nat} {f v : By} {L : List By} {i : Nat} (hp : 1 ≤ p) (hp2 : p ≤ 256) (hR : RR 8 p L) : inL p L [pdV p n f v (bas i), pdV p n f (bas i) v] = true ↔ Sp' 8 p L (pdV p n f v (bas i)) ∧ Sp' 8 p L (pdV p n f (bas i) v) := by
  rw [in_cls hp hp2 hR (pd_vp2 hp hp2)]
  simp
theorem in_one' {p : Int} {n : Nat} {f v : By} {L : List By} (hp : 1 ≤ p) (hp2 : p ≤ 256) (hR : RR 8 p L) : inL p L [anV p n f v] = true ↔ Sp' 8 p L (anV p n f v) := by
  rw [in_cls hp hp2 hR (by simp; exact an_vp hp hp2)]
  simp
theorem cp_z' {p : Int} {n : Nat} {f v : By} (hs : HShp p n f) : ∀ j k, j < 8 → k < 8 → n ≤ j ∨ n ≤ k → cpV p n f v (j * 8 + k) = 0 := fun j k hj hk h => bz_eq0.1 (cop_z hs hj hk h)
theorem cputs_hd {a b : Int} {N : Nat} {g : By} : cputs (Zk.by 2 N).bk 0 (.ag [a, b] N g) N = some (.by [a, b] N g) := if_pos ⟨rfl, rfl, rfl, rfl⟩
set_option maxHeartbeats 1000000 in
theorem i_Hopf_isIdeal_ok (B : Bs P ρ) (E : F_i_Hopf_isIdeal P ρ) {H : List Blk} {k n : Nat} {r : Bool} {p : Int} {f : By} {a : At} {L : List By} (hk : H[k]? = some ⟨r, .by [p, (n : Int)] 1106 f⟩) (hs : HShp p n f) (hL : VS H a L) (hR : RR 8 p L) (hv : ∀ v ∈ L, Vp n p v) :
    CallR P ρ 369 [.pt k 0, a] H (fun u G => u = .one (.b (decide (IdlC p n f L))) ∧ Ext H G) := by
  have hpr := hs.1.1
  have hp2 := hpr.1
  have hp3 := hpr.2.1
  have hn8 : n ≤ 8 := by have := hs.1.2.2; omega
  have hlen := hR.len
  refine call_of_q B.fn B.mo E.1 rfl (fun hAr hHp => ?_) (by simp only [List.all_cons, List.all_nil, hL.lt]; simp [At.lt, lt_of hk])
  refine ⟨_, CallOK.at1 hk (i_Hopf_field_ok B E.2.1 (p := p) (n := (n : Int)) (f := f)) rfl rfl, ?_⟩
  rintro _ H ⟨rfl, rfl⟩
  refine ⟨_, rfl, ?_⟩
  refine ⟨_, _, _, get_new, cputs_hd, eqBk_rfl, ?_⟩
  rw [app_set0]
  refine ⟨_, (hL).len, ?_⟩
  refine ⟨Unit, (fun a0 a1 a5 a11 a12 (i0 : Nat) (x0 : Unit) => [(0, a0), (1, a1), (5, a5), (11, a11), (12, a12), (13, .one (.i .i64 ((i0 : Nat) : Int)))]) _ _ _ _ _ , fun (i0 : Nat) (x0 : Unit) (G0 : List Blk) => ((∀ j, j < i0 → IdlV p n f L (L.getD j z0)) ∧ Ext (H ++ [⟨false, .by [p, (n : Int)] 2 (fun _ => 0)⟩]) G0), L.length, ⟨(), ⟨fun j h => absurd h (by omega), Ext.refl⟩, ⟨rfl, rfl, rfl, rfl, rfl, rfl, trivial⟩⟩, ?_⟩
  rintro i0 _ G0 hi0 ⟨hF0, hE0⟩
  have hE0' : Ext H G0 := Ext.app.trans hE0
  have hf0 := hE0 _ _ get_new
  refine ⟨fun h14 => ?_, fun h14 => ?_⟩
  · replace h14 := of_decide_eq_true h14
    obtain ⟨k15, o15, n15, c15, q15, ea15, hl15, hq15, r15, N15, f15, hk15, hN15, hf15⟩ := (hL.ext hE0').at i0 (by omega)
    refine ⟨k15, o15, n15, c15, i0, q15, ea15, rfl, hl15, hq15, ?_⟩
    refine ⟨_, _, _, _, _, hk15, ⟨by simp, hN15⟩, hf15, ?_⟩
    refine ⟨_, rfl, ?_⟩
    refine ⟨_, _, _, get_new, cputs_by (by simp) (by omega), eqBk_rfl, ?_⟩
    rw [app_set0]
    refine ⟨_, _, app_old hf0, rfl, ?_⟩
    have hvi := hv (L.getD i0 z0) (getD_mem (by omega))
    refine ⟨Unit, (fun a0 a1 a5 a7 a11 a12 a13 a18 (i1 : Nat) (x1 : Unit) => [(0, a0), (1, a1), (5, a5), (7, a7), (11, a11), (12, a12), (13, a13), (18, a18), (19, .one (.i .i64 ((i1 : Nat) : Int)))]) _ _ _ _ _ _ _ _ , fun (i1 : Nat) (x1 : Unit) (G1 : List Blk) => ((∀ i, i < i1 → Sp' 8 p L (pdV p n f (L.getD i0 z0) (bas i)) ∧ Sp' 8 p L (pdV p n f (bas i) (L.getD i0 z0))) ∧ Ext (H ++ [⟨false, .by [p, (n : Int)] 2 (fun _ => 0)⟩]) G1 ∧ ∃ w, G1[G0.length]? = some ⟨false, .by [] 8 w⟩ ∧ ∀ x, x < 8 → w x = L.getD i0 z0 x), n, ⟨(), ⟨fun i h => absurd h (by omega), hE0.trans Ext.app, _, get_new, fun x hx => by simp [spl, hx]⟩, ⟨rfl, rfl, rfl, rfl, rfl, rfl, rfl, rfl, rfl, trivial⟩⟩, ?_⟩
    rintro i1 _ G1 hi1 ⟨hF1, hE1, w, hw, hwe⟩
    have hE1' : Ext H G1 := Ext.app.trans hE1
    refine ⟨fun h20 => ?_, fun h20 => ?_⟩
    · replace h20 := of_decide_eq_true h20
      refine ⟨_, _, _, _, L.getD i0 z0, hw, ⟨by simp, by omega⟩, fun x hx => by rw [Nat.zero_add, hwe x hx], ?_⟩
      refine ⟨_, i_basis_ok B E.2.2.1 (i := i1) (by omega), rfl, ?_⟩
      refine ⟨_, _, _, _, L.getD i0 z0, hw, ⟨by simp, by omega⟩, fun x hx => by rw [Nat.zero_add, hwe x hx], ?_⟩
      refine ⟨_, CallOK.at1 (hE1' _ _ hk) (i_Hopf_product_ok B E.2.2.2.1 (v := L.getD i0 z0) (w := bas i1) (by omega) (by omega) hn8) rfl rfl, ?_⟩
      rintro _ G1 ⟨rfl, rfl⟩
      refine ⟨⟨kept1 hw hw, trivial⟩, ?_⟩
      refine ⟨_, i_basis_ok B E.2.2.1 (i := i1) (by omega), rfl, ?_⟩
      refine ⟨_, CallOK.at1 (hE1' _ _ hk) (i_Hopf_product_ok B E.2.2.2.1 (v := bas i1) (w := L.getD i0 z0) (by omega) (by omega) hn8) rfl rfl, ?_⟩
      rintro _ G1 ⟨rfl, rfl⟩
      refine ⟨_, rfl, ?_⟩
      refine ⟨_, i_Hopf_holds_ok B E.2.2.2.2.1 (L := L) (M := [pdV p n f (L.getD i0 z0) (bas i1), pdV p n f (bas i1) (L.getD i0 z0)]) (app_old (hE1' _ _ hk)) (by omega) (by omega) ((hL.ext hE1').ext Ext.app) hR.fs (by omega) (VS.two (fun x hx => by simp only [spl]; rw [if_neg (by omega), if_pos (by omega)]; exact congrArg _ (by omega)) fun x hx => by simp only [spl]; rw [if_pos (by omega)]; exact congrArg _ (by omega)) (fun v hv x _ => (pd_vp2 (by omega) (by omega) v hv).1 x) (by simp), ?_⟩
      rintro _ _ ⟨rfl, rfl⟩
      refine ⟨fun h36 => ?_, fun h36 => ?_⟩
      · skip
        have q36 : ¬ (Sp' 8 p L (pdV p n f (L.getD i0 z0) (bas i1)) ∧ Sp' 8 p L (pdV p n f (bas i1) (L.getD i0 z0))) := fun q => by rw [(in_two' (by omega) (by omega) hR).2 q] at h36; cases h36
        exact ⟨rfl, by rw [decide_eq_false fun q : IdlC p n f L => q36 ((q i0 (by omega)).2.2.1 i1 (by omega))]; rfl, hE1'.trans Ext.app⟩
      · skip
        have q36 : Sp' 8 p L (pdV p n f (L.getD i0 z0) (bas i1)) ∧ Sp' 8 p L (pdV p n f (bas i1) (L.getD i0 z0)) := (in_two' (by omega) (by omega) hR).1 (by simpa using h36)
        refine ⟨((i1 + 1 : Nat) : Int), w64_id _ (by omega) (by omega), ?_⟩
        refine ⟨by omega, (), ?_, ⟨rfl, rfl, rfl, rfl, rfl, rfl, rfl, rfl, rfl, trivial⟩⟩
        refine ⟨fun i hi => ?_, hE1.trans Ext.app, w, app_old hw, hwe⟩
        by_cases e : i = i1
        · subst e; exact q36
        · exact hF1 i (by omega)
    · replace h20 := of_decide_eq_false h20
      have e1 : n = i1 := by omega
      subst e1
      refine ⟨_, _, _, _, L.getD i0 z0, hw, ⟨by simp, by omega⟩, fun x hx => by rw [Nat.zero_add, hwe x hx], ?_⟩
      refine ⟨_, i_Hopf_antipode_ok B E.2.2.2.2.2.1 (hE1' _ _ hk) (by omega) (by omega) hn8 (fun j h1 h2 => bz_eq0.2 (hvi.2 j h1)), ?_⟩
      rintro _ G1 ⟨rfl, rfl⟩
      refine ⟨_, rfl, ?_⟩
      refine ⟨_, i_Hopf_holds_ok B E.2.2.2.2.1 (L := L) (M := [anV p n f (L.getD i0 z0)]) (app_old (hE1' _ _ hk)) (by omega) (by omega) ((hL.ext hE1').ext Ext.app) hR.fs (by omega) VS.one (fun v hv x _ => by rw [List.mem_singleton.1 hv]; exact (an_vp (by omega) (by omega)).1 x) (by simp), ?_⟩
      rintro _ _ ⟨rfl, rfl⟩
      refine ⟨fun h46 => ?_, fun h46 => ?_⟩
      · skip
        have q46 : ¬ Sp' 8 p L (anV p n f (L.getD i0 z0)) := fun q => by rw [(in_one' (by omega) (by omega) hR).2 q] at h46; cases h46
        refine brB_t ?_
        refine brB_t ?_
        refine brB_t ?_
        refine brB_t ?_
        refine brB_t ?_
        refine brB_t ?_
        refine brB_t ?_
        refine brB_t ?_
        refine brB_t ?_
        refine brB_t ?_
        refine brB_t ?_
        refine brB_t ?_
        refine brB_t ?_
        refine brB_t ?_
        exact ⟨rfl, by rw [decide_eq_false fun q : IdlC p n f L => q46 (q i0 (by omega)).2.1]; rfl, hE1'.trans Ext.app⟩
      · skip
        have q46 : Sp' 8 p L (anV p n f (L.getD i0 z0)) := (in_one' (by omega) (by omega) hR).1 (by simpa using h46)
        refine brB_f ?_
        refine ⟨_, _, _, _, L.getD i0 z0, app_old hw, ⟨by simp, by omega⟩, fun x hx => by rw [Nat.zero_add, hwe x hx], ?_⟩
        refine brB_f ?_
        refine ⟨_, CallOK.at1 (app_old (hE1' _ _ hk)) (i_Hopf_counit_ok B E.2.2.2.2.2.2.1 (p := p) (n := (n : Int)) (f := f) (v := L.getD i0 z0) (by omega) (by omega)) rfl rfl, ?_⟩
        rintro _ _ ⟨rfl, rfl⟩
        rw [← ctu_8 hs]
        refine brB_f ?_
        refine brB_f ?_
        refine ⟨fun h52 => ?_, fun h52 => ?_⟩
        · replace h52 := bne_t h52
          refine brB_t ?_
          refine brB_t ?_
          refine brB_t ?_
          refine brB_t ?_
          refine brB_t ?_
          refine brB_t ?_
          refine brB_t ?_
          refine brB_t ?_
          refine brB_t ?_
          exact ⟨rfl, by rw [decide_eq_false fun q : IdlC p n f L => h52 (q i0 (by omega)).1]; rfl, hE1'.trans Ext.app⟩
        · replace h52 := bne_f h52
          refine .inl ⟨_, _, _, _, app_old (hE1 _ _ get_new), ⟨rfl, by omega⟩, ?_⟩
          refine brB_f ?_
          refine brB_f ?_
          refine brB_f ?_
          refine ⟨_, _, _, _, L.getD i0 z0, app_old hw, ⟨by simp, by omega⟩, fun x hx => by rw [Nat.zero_add, hwe x hx], ?_⟩
          refine brB_f ?_
          refine brB_f ?_
          refine ⟨_, CallOK.at1 (app_old (hE1' _ _ hk)) (i_Hopf_coproduct_ok B E.2.2.2.2.2.2.2.1 (p := p) (n := n) (f := f) (v := L.getD i0 z0) (by omega) (by omega) hn8 (fun j h1 h2 => bz_eq0.2 (hvi.2 j h1))) rfl rfl, ?_⟩
          rintro _ _ ⟨rfl, rfl⟩
          refine ⟨⟨kept1 (app_old (hE1 _ _ get_new)) (app_old (hE1 _ _ get_new)), trivial⟩, ?_⟩
          refine brB_f ?_
          refine ⟨_, i_field_restTable_ok B E.2.2.2.2.2.2.2.2 (m := cpV p n f (L.getD i0 z0)) (by omega) (by omega) ((hL.ext hE1').ext Ext.app) hR (cp_lt (by omega) (by omega)), ?_⟩
          rintro _ G58 ⟨F58, rfl, hE58, hF58⟩
          refine brB_f ?_
          refine brB_f ?_
          refine ⟨fun h61 => ?_, fun h61 => ?_⟩
          · skip
            have q61 : ¬ IdZ p L (cpV p n f (L.getD i0 z0)) := fun q => by rw [eqB_iff.2 (fun x hx => hF58.2 q x hx)] at h61; cases h61
            exact ⟨rfl, by rw [decide_eq_false fun q : IdlC p n f L => q61 (q i0 (by omega)).2.2.2]; rfl, hE1'.trans (Ext.app.trans hE58)⟩
          · skip
            have q61 : IdZ p L (cpV p n f (L.getD i0 z0)) := hF58.1 fun x hx => eqB_iff.1 (by simpa using h61) x hx
            refine ⟨((i0 + 1 : Nat) : Int), w64_id _ (by omega) (by omega), ?_⟩
            refine ⟨by omega, (), ?_, ⟨rfl, rfl, rfl, rfl, rfl, rfl, trivial⟩⟩
            refine ⟨fun j hj => ?_, hE1.trans (Ext.app.trans hE58)⟩
            by_cases e : j = i0
            · subst e; exact ⟨h52, q46, hF1, q61⟩
            · exact hF0 j (by omega)
  · replace h14 := of_decide_eq_false h14
    have e0 : L.length = i0 := by omega
    subst e0
    exact ⟨rfl, by rw [decide_eq_true (show IdlC p n f L from hF0)]; rfl, Ext.app.trans hE0⟩

end Hf
namespace Hf
open Go Classical
variable {P : Program} {ρ : Nat → FuncId}
structure I2 (H : List Blk) (S A : Blk) (G : List Blk) : Prop where
  s : G[H.length]? = some S
  a : G[H.length + 1]? = some A
  x : Ext H G
theorem I2.ext {H G G' : List Blk} {S A : Blk} (h : I2 H S A G) (e : Ext G G') : I2 H S A G' := ⟨e _ _ h.s, e _ _ h.a, h.x.trans e⟩
theorem I2.new {H : List Blk} {S A A' : Blk} : I2 H S A' ((H ++ [S] ++ [A]).set (H.length + 1) A') := by
  have e : (H ++ [S] ++ [A])[H.length + 1]? = some A := by simp
  have e2 : (H ++ [S] ++ [A])[H.length]? = some S := by simp
  exact ⟨set_other e2 (by omega), set_same e, fun k B h => set_other (app_old (app_old h)) (by have := lt_of h; omega)⟩
set_option maxHeartbeats 2000000 in
theorem s_l07Ideal_ok (B : Bs P ρ) (E : F_s_l07Ideal P ρ) {H : List Blk} {n : Nat} {p : Int} {f : By} {a : At} {L : List By} (hs : HShp p n f) (hL : VS H a L) (hR : RR 8 p L) (hv : ∀ v ∈ L, Vp n p v) :
    CallR P ρ 368 [.ag [p, (n : Int)] 1106 f, a] H (fun u G => u = .one (.b (decide (IdlC p n f L))) ∧ Ext H G) := by
  have hpr := hs.1.1
  have hp2 := hpr.1
  have hp3 := hpr.2.1
  have hn8 : n ≤ 8 := by have := hs.1.2.2; omega
  have hlen := hR.len
  refine call_of_q B.fn B.mo E.1 rfl (fun hAr hHp => ?_) (by simp only [List.all_cons, List.all_nil, hL.lt]; rfl)
  refine ⟨_, rfl, ?_⟩
  refine ⟨_, _, get_new, rfl, ?_⟩
  refine ⟨_, _, get_new, rfl, ?_⟩
  refine .inl ⟨_, _, _, _, get_new, ⟨rfl, by omega⟩, ?_⟩
  refine ⟨_, s_l03Algebra_ok B E.2.1 (p := p) (n := (n : Int)) (f := f), rfl, ?_⟩
  refine ⟨H.length + 1, by simp, ?_⟩
  refine ⟨⟨kept1 get_new (app_old get_new), kept1 get_new (app_old get_new), kept1 get_new (app_old get_new), trivial⟩, ?_⟩
  refine ⟨_, _, _, (by simp : (H ++ [(⟨false, .by [p, (n : Int)] 1106 f⟩ : Blk)] ++ [⟨false, (Zk.by 2 522).bk⟩])[H.length + 1]? = some ⟨false, (Zk.by 2 522).bk⟩), cputs_hd, eqBk_rfl, ?_⟩
  refine ⟨Unit, (fun a1 a2 a5 a6 a7 (i0 : Nat) (x0 : Unit) => [(1, a1), (2, a2), (5, a5), (6, a6), (7, a7), (8, .one (.i .i64 ((i0 : Nat) : Int)))]) _ _ _ _ _ , fun (i0 : Nat) (x0 : Unit) (G0 : List Blk) => ((∀ j, j < i0 → IdlV p n f L (L.getD j z0)) ∧ I2 H ⟨false, .by [p, (n : Int)] 1106 f⟩ ⟨false, .by [p, (n : Int)] 522 f⟩ G0), L.length, ⟨(), ⟨fun j h => absurd h (by omega), I2.new⟩, ⟨rfl, rfl, rfl, rfl, rfl, rfl, trivial⟩⟩, ?_⟩
  rintro i0 _ G0 hi0 ⟨hF0, h0⟩
  have hV0 := hL.ext h0.x
  refine ⟨_, (hV0).len, ?_⟩
  refine ⟨fun h19 => ?_, fun h19 => ?_⟩
  · replace h19 := of_decide_eq_true h19
    refine .inl ⟨_, _, _, _, h0.s, ⟨rfl, by omega⟩, ?_⟩
    obtain ⟨k25, o25, n25, c25, q25, ea25, hl25, hq25, r25, N25, f25, hk25, hN25, hf25⟩ := (hV0).at i0 (by omega)
    refine ⟨k25, o25, n25, c25, i0, q25, ea25, rfl, hl25, hq25, ?_⟩
    refine ⟨_, _, _, _, _, hk25, ⟨by simp, hN25⟩, hf25, ?_⟩
    refine ⟨_, s_l03Counit_ok B E.2.2.1 (p := p) (n := n) (f := f) (v := L.getD i0 z0) (by omega) (by omega) hn8, rfl, ?_⟩
    refine ⟨fun h29 => ?_, fun h29 => ?_⟩
    · replace h29 := bne_t h29
      refine brB_t ?_
      refine brB_t ?_
      refine brB_t ?_
      refine brB_t ?_
      refine brB_t ?_
      refine brB_t ?_
      refine brB_t ?_
      refine brB_t ?_
      refine brB_t ?_
      refine brB_t ?_
      refine brB_t ?_
      refine brB_t ?_
      refine brB_t ?_
      refine brB_t ?_
      exact ⟨rfl, by rw [decide_eq_false fun q : IdlC p n f L => h29 (q i0 (by omega)).1]; rfl, h0.x⟩
    · replace h29 := bne_f h29
      refine brB_f ?_
      refine brB_f ?_
      refine brB_f ?_
      refine brB_f ?_
      refine ⟨_, _, _, _, sh f 1042, h0.s, ⟨by simp, by omega⟩, fun x hx => by simp [sh_app], ?_⟩
      refine brB_f ?_
      refine brB_f ?_
      refine brB_f ?_
      obtain ⟨k37, o37, n37, c37, q37, ea37, hl37, hq37, r37, N37, f37, hk37, hN37, hf37⟩ := (hV0).at i0 (by omega)
      refine ⟨k37, o37, n37, c37, i0, q37, ea37, rfl, hl37, hq37, ?_⟩
      refine brB_f ?_
      refine ⟨_, _, _, _, _, hk37, ⟨by simp, hN37⟩, hf37, ?_⟩
      refine brB_f ?_
      refine ⟨_, s_l01Apply_ok B E.2.2.2.1 (n := n) (p := p) (f := sh f 1042) (v := L.getD i0 z0) (by omega) (by omega) hn8, rfl, ?_⟩
      refine brB_f ?_
      refine brB_f ?_
      have han : (vec 8 p fun y => sm n fun i => bz (L.getD i0 z0) i * bz (sh f 1042) (i * 8 + y)) = anV p n f (L.getD i0 z0) := by
        unfold anV; simp only [bz, sh_app, Nat.add_assoc]
      rw [han]
      refine ⟨_, s_l07In_ok B E.2.2.2.2.1 (by omega) (by omega) hV0 hR (an_vp (by omega) (by omega)), ?_⟩
      rintro _ G0 ⟨rfl, rfl⟩
      refine brB_f ?_
      refine brB_f ?_
      refine ⟨fun h43 => ?_, fun h43 => ?_⟩
      · skip
        have q43 : ¬ Sp' 8 p L (anV p n f (L.getD i0 z0)) := by simpa using h43
        exact ⟨rfl, by rw [decide_eq_false fun q : IdlC p n f L => q43 (q i0 (by omega)).2.1]; rfl, h0.x⟩
      · skip
        have q43 : Sp' 8 p L (anV p n f (L.getD i0 z0)) := by simpa using h43
        refine ⟨Unit, (fun a1 a2 a5 a6 a7 a8 (i1 : Nat) (x1 : Unit) => [(1, a1), (2, a2), (5, a5), (6, a6), (7, a7), (8, a8), (9, .one (.i .i64 ((i1 : Nat) : Int)))]) _ _ _ _ _ _ , fun (i1 : Nat) (x1 : Unit) (G1 : List Blk) => ((∀ i, i < i1 → Sp' 8 p L (pdV p n f (L.getD i0 z0) (bas i)) ∧ Sp' 8 p L (pdV p n f (bas i) (L.getD i0 z0))) ∧ G1 = G0), n, ⟨(), ⟨fun i h => absurd h (by omega), rfl⟩, ⟨rfl, rfl, rfl, rfl, rfl, rfl, rfl, trivial⟩⟩, ?_⟩
        rintro i1 _ G1 hi1 ⟨hF1, rfl⟩
        refine ⟨fun h46 => ?_, fun h46 => ?_⟩
        · replace h46 := of_decide_eq_true h46
          refine .inl ⟨_, _, _, _, h0.a, ⟨rfl, by omega⟩, ?_⟩
          refine ⟨_, s_l01Basis_ok B E.2.2.2.2.2.1 (i := i1) (by omega), rfl, ?_⟩
          obtain ⟨k55, o55, n55, c55, q55, ea55, hl55, hq55, r55, N55, f55, hk55, hN55, hf55⟩ := (hV0).at i0 (by omega)
          refine ⟨k55, o55, n55, c55, i0, q55, ea55, rfl, hl55, hq55, ?_⟩
          refine ⟨_, _, _, _, _, hk55, ⟨by simp, hN55⟩, hf55, ?_⟩
          refine ⟨_, s_l01Times_ok B E.2.2.2.2.2.2.1 (n := n) (p := p) (f := f) (v := bas i1) (w := L.getD i0 z0) (by omega) (by omega) hn8, rfl, ?_⟩
          refine ⟨_, s_l07In_ok B E.2.2.2.2.1 (by omega) (by omega) hV0 hR (pd_vp (n := n) (f := f) (v := bas i1) (w := L.getD i0 z0) (by omega) (by omega)), ?_⟩
          rintro _ G0 ⟨rfl, rfl⟩
          refine ⟨fun h61 => ?_, fun h61 => ?_⟩
          · skip
            have q61 : ¬ Sp' 8 p L (pdV p n f (bas i1) (L.getD i0 z0)) := fun q => by rw [show decide (Sp' 8 p L (vec 8 p (prd n f 10 (bas i1) (L.getD i0 z0)))) = true from decide_eq_true q] at h61; cases h61
            refine brB_t ?_
            refine brB_t ?_
            refine brB_t ?_
            refine brB_t ?_
            refine brB_t ?_
            refine brB_t ?_
            refine brB_t ?_
            refine brB_t ?_
            refine brB_t ?_
            refine brB_t ?_
            refine brB_t ?_
            refine brB_t ?_
            refine brB_t ?_
            exact ⟨rfl, by rw [decide_eq_false fun q : IdlC p n f L => q61 ((q i0 (by omega)).2.2.1 i1 (by omega)).2]; rfl, h0.x⟩
          · skip
            have q61 : Sp' 8 p L (pdV p n f (bas i1) (L.getD i0 z0)) := (by simpa using h61 : Sp' 8 p L (vec 8 p (prd n f 10 (bas i1) (L.getD i0 z0))))
            refine brB_f ?_
            refine .inl ⟨_, _, _, _, h0.a, ⟨rfl, by omega⟩, ?_⟩
            refine brB_f ?_
            refine brB_f ?_
            refine brB_f ?_
            obtain ⟨k66, o66, n66, c66, q66, ea66, hl66, hq66, r66, N66, f66, hk66, hN66, hf66⟩ := (hV0).at i0 (by omega)
            refine ⟨k66, o66, n66, c66, i0, q66, ea66, rfl, hl66, hq66, ?_⟩
            refine brB_f ?_
            refine ⟨_, _, _, _, _, hk66, ⟨by simp, hN66⟩, hf66, ?_⟩
            refine brB_f ?_
            refine brB_f ?_
            refine ⟨_, s_l01Basis_ok B E.2.2.2.2.2.1 (i := i1) (by omega), rfl, ?_⟩
            refine brB_f ?_
            refine ⟨_, s_l01Times_ok B E.2.2.2.2.2.2.1 (n := n) (p := p) (f := f) (v := L.getD i0 z0) (w := bas i1) (by omega) (by omega) hn8, rfl, ?_⟩
            refine brB_f ?_
            refine brB_f ?_
            refine ⟨_, s_l07In_ok B E.2.2.2.2.1 (by omega) (by omega) hV0 hR (pd_vp (n := n) (f := f) (v := L.getD i0 z0) (w := bas i1) (by omega) (by omega)), ?_⟩
            rintro _ G0 ⟨rfl, rfl⟩
            refine brB_f ?_
            refine brB_f ?_
            refine ⟨fun h74 => ?_, fun h74 => ?_⟩
            · skip
              have q74 : ¬ Sp' 8 p L (pdV p n f (L.getD i0 z0) (bas i1)) := fun q => by rw [show decide (Sp' 8 p L (vec 8 p (prd n f 10 (L.getD i0 z0) (bas i1)))) = true from decide_eq_true q] at h74; cases h74
              exact ⟨rfl, by rw [decide_eq_false fun q : IdlC p n f L => q74 ((q i0 (by omega)).2.2.1 i1 (by omega)).1]; rfl, h0.x⟩
            · skip
              have q74 : Sp' 8 p L (pdV p n f (L.getD i0 z0) (bas i1)) := (by simpa using h74 : Sp' 8 p L (vec 8 p (prd n f 10 (L.getD i0 z0) (bas i1))))
              refine ⟨((i1 + 1 : Nat) : Int), w64_id _ (by omega) (by omega), ?_⟩
              refine ⟨by omega, (), ?_, ⟨rfl, rfl, rfl, rfl, rfl, rfl, rfl, trivial⟩⟩
              refine ⟨fun i hi => ?_, rfl⟩
              by_cases e : i = i1
              · subst e; exact ⟨q74, q61⟩
              · exact hF1 i (by omega)
        · replace h46 := of_decide_eq_false h46
          have e1 : n = i1 := by omega
          subst e1
          refine .inl ⟨_, _, _, _, h0.s, ⟨rfl, by omega⟩, ?_⟩
          refine .inl ⟨_, _, _, _, h0.s, ⟨rfl, by omega⟩, ?_⟩
          obtain ⟨k79, o79, n79, c79, q79, ea79, hl79, hq79, r79, N79, f79, hk79, hN79, hf79⟩ := (hV0).at i0 (by omega)
          refine ⟨k79, o79, n79, c79, i0, q79, ea79, rfl, hl79, hq79, ?_⟩
          refine ⟨_, _, _, _, _, hk79, ⟨by simp, hN79⟩, hf79, ?_⟩
          refine ⟨_, s_l03Coproduct_ok B E.2.2.2.2.2.2.2.1 (p := p) (n := n) (f := f) (v := L.getD i0 z0) (by omega) (by omega) hn8, rfl, ?_⟩
          refine ⟨_, s_l07Reduced_ok B E.2.2.2.2.2.2.2.2 (m := cpV p n f (L.getD i0 z0)) (f := f) (n := n) (p := p) (by omega) (by omega) hn8 hV0 hR hv (cp_lt (by omega) (by omega)) (cp_z' hs), ?_⟩
          rintro _ G83 ⟨F83, rfl, hE83, hF83⟩
          refine ⟨fun h85 => ?_, fun h85 => ?_⟩
          · skip
            have q85 : ¬ IdZ p L (cpV p n f (L.getD i0 z0)) := fun q => by rw [eqB_iff.2 (fun x hx => hF83.2 q x hx)] at h85; cases h85
            exact ⟨rfl, by rw [decide_eq_false fun q : IdlC p n f L => q85 (q i0 (by omega)).2.2.2]; rfl, h0.x.trans hE83⟩
          · skip
            have q85 : IdZ p L (cpV p n f (L.getD i0 z0)) := hF83.1 fun x hx => eqB_iff.1 (by simpa using h85) x hx
            refine ⟨((i0 + 1 : Nat) : Int), w64_id _ (by omega) (by omega), ?_⟩
            refine ⟨by omega, (), ?_, ⟨rfl, rfl, rfl, rfl, rfl, rfl, trivial⟩⟩
            refine ⟨fun j hj => ?_, h0.ext hE83⟩
            by_cases e : j = i0
            · subst e; exact ⟨h29, q43, hF1, q85⟩
            · exact hF0 j (by omega)
  · replace h19 := of_decide_eq_false h19
    have e0 : L.length = i0 := by omega
    subst e0
    exact ⟨rfl, by rw [decide_eq_true (show IdlC p n f L from hF0)]; rfl, h0.x⟩

/-- is the space a Hopf ideal, if all is well -/
noncomputable def idlV (p n : Int) (f : By) (L : List By) : Bool := if HQ p n f L then decide (IdlC p n.toNat f (redL p L)) else false
theorem s_IsHopfIdeal_ok (B : Bs P ρ) (E : F_s_IsHopfIdeal P ρ) {H : List Blk} {m : Nat} {p n : Int} {f : By} {a : At} {L : List By} (hL : VT m H a L) (hlen : L.length ≤ 1000000) (hz : ∀ v ∈ L, ∀ x, 8 ≤ x → v x = 0) :
    CallR P ρ 357 [.ag [p, n] 1106 f, a] H (fun u G => u = .tup [.b (idlV p n f L), .i .i64 (oc (HQ p n f L) 1)] ∧ G = H) := by
  refine CallR.pure (call_of_q B.fn B.mo E.1 rfl (fun hA hH => ?_) (by simp only [List.all_cons, List.all_nil, hL.vs.lt]; rfl)) rfl
  refine ⟨_, rfl, ?_⟩
  refine .inl ⟨_, _, _, _, get_new, ⟨rfl, by omega⟩, ?_⟩
  refine ⟨_, codeS_vt B E.2.1 (hL.ext Ext.app) hlen, ?_⟩
  rintro _ _ ⟨rfl, rfl⟩
  rw [show (Hop p n f ∧ ∀ v ∈ L, Vec p n v 0) = HQ p n f L from rfl]
  refine ⟨fun h11 => ?_, fun h11 => ?_⟩
  · replace h11 := bne_t h11
    refine ⟨rfl, ?_, Ext.app⟩
    have hq : ¬ HQ p n f L := fun q => h11 (oc_t q)
    unfold idlV; rw [if_neg hq]; rfl
  · replace h11 := bne_f h11
    have hq : HQ p n f L := oc_0 h11
    obtain ⟨n, rfl⟩ : ∃ m : Nat, n = (m : Int) := ⟨n.toNat, by have := hq.1.1.1.2.1; omega⟩
    have hs := hq.1.1
    have hpr := hs.1.1
    have hp2 := hpr.1
    have hp3 := hpr.2.1
    have hn8 : n ≤ 8 := by have := hs.1.2.2; omega
    have hvn := hq.vn hz
    have hvp : ∀ v ∈ L, Vp 8 p v := fun v h => (hvn v h).mono hn8
    have hrr := (redL_rr hpr hvp).1
    refine .inl ⟨_, _, _, _, get_new, ⟨rfl, by omega⟩, ?_⟩
    refine ⟨_, _, get_new, rfl, ?_⟩
    refine ⟨_, s_l01Reduce_ok B E.2.2.1 hpr (hL.vs.ext Ext.app) hvp hlen, ?_⟩
    rintro _ G17 ⟨b17, rfl, hE17, hV17⟩
    refine ⟨⟨kept1 get_new (hE17 _ _ get_new), trivial⟩, ?_⟩
    refine ⟨_, s_l07Ideal_ok B E.2.2.2 hs hV17 hrr (red_vn hpr hn8 hvn), ?_⟩
    rintro _ G18 ⟨rfl, hE18⟩
    refine ⟨rfl, ?_, Ext.app.trans (hE17.trans hE18)⟩
    unfold idlV; rw [if_pos hq, oc_t hq]; rfl

theorem i_IsHopfIdeal_ok (B : Bs P ρ) (E : F_i_IsHopfIdeal P ρ) {H : List Blk} {m : Nat} {p n : Int} {f : By} {a : At} {L : List By} (hL : (L = [] ∧ a = .sn) ∨ VT m H a L) (hlen : L.length ≤ 1000000) (hz : ∀ v ∈ L, ∀ x, 8 ≤ x → v x = 0) :
    CallR P ρ 358 [.ag [p, n] 1106 f, a] H (fun u G => u = .tup [.b (idlV p n f L), .i .i64 (oc (HQ p n f L) 1)] ∧ G = H) := by
  have hV : VS H a L := hL.elim (fun h => .inl ⟨h.2, h.1⟩) VT.vs
  refine CallR.pure (call_of_q B.fn B.mo E.1 rfl (fun hA hH => ?_) (by simp only [List.all_cons, List.all_nil, hV.lt]; rfl)) rfl
  refine ⟨_, rfl, ?_⟩
  refine ⟨_, code_vt B E.2.1 get_new (hL.imp id fun h => h.ext Ext.app) hlen, ?_⟩
  rintro _ _ ⟨rfl, rfl⟩
  rw [show (Hop p n f ∧ ∀ v ∈ L, Vec p n v 0) = HQ p n f L from rfl]
  refine ⟨fun h10 => ?_, fun h10 => ?_⟩
  · replace h10 := bne_t h10
    refine ⟨rfl, ?_, Ext.app⟩
    have hq : ¬ HQ p n f L := fun q => h10 (oc_t q)
    unfold idlV; rw [if_neg hq]; rfl
  · replace h10 := bne_f h10
    have hq : HQ p n f L := oc_0 h10
    obtain ⟨n, rfl⟩ : ∃ m : Nat, n = (m : Int) := ⟨n.toNat, by have := hq.1.1.1.2.1; omega⟩
    have hs := hq.1.1
    have hpr := hs.1.1
    have hp2 := hpr.1
    have hp3 := hpr.2.1
    have hn8 : n ≤ 8 := by have := hs.1.2.2; omega
    have hvn := hq.vn hz
    have hvp : ∀ v ∈ L, Vp 8 p v := fun v h => (hvn v h).mono hn8
    have hrr := (redL_rr hpr hvp).1
    refine ⟨_, i_Hopf_span_ok B E.2.2.1 (k := H.length) get_new hpr (hV.ext Ext.app) hvp hlen, ?_⟩
    rintro _ G13 ⟨b13, rfl, hE13, hV13⟩
    refine ⟨_, i_Hopf_isIdeal_ok B E.2.2.2 (hE13 _ _ get_new) hs hV13.vs hrr (red_vn hpr hn8 hvn), ?_⟩
    rintro _ G14 ⟨rfl, hE14⟩
    refine ⟨rfl, ?_, Ext.app.trans (hE13.trans hE14)⟩
    unfold idlV; rw [if_pos hq, oc_t hq]; rfl

theorem l_FnExactIsHopfIdeal_ok (B : Bs P ρ) (E : F_l_FnExactIsHopfIdeal P ρ) {H : List Blk} {p n : Int} {f : By} {a : At} {L : List By} (hL : VA H a L) (hz : ∀ v ∈ L, ∀ x, 8 ≤ x → v x = 0) (hlen : L.length ≤ 9223372036854775807) :
    CallR P ρ 359 [.ag [p, n] 1106 f, a] H (fun u G => u = .one (.b true) ∧ G = H) := by
  refine CallR.pure (call_of_q B.fn B.mo E.1 rfl (fun hA hH => ?_) (by simp only [List.all_cons, List.all_nil, hL.lt]; rfl)) rfl
  refine ⟨_, rfl, ?_⟩
  have hEx : Ext (H ++ [(⟨false, .by [p, n] 1106 f⟩ : Blk)]) (H ++ [(⟨false, .by [p, n] 1106 f⟩ : Blk)]) := Ext.refl
  have hE0 : Ext H (H ++ [(⟨false, .by [p, n] 1106 f⟩ : Blk)]) := Ext.app
  refine ⟨_, l_szVectorS_ok B E.2.1 (hL.ext hE0) hlen, ?_⟩
  rintro _ _ ⟨rfl, rfl⟩
  refine ⟨fun h17 => ?_, fun h17 => ?_⟩
  · replace h17 := of_decide_eq_true h17
    exact ⟨rfl, rfl, hE0⟩
  · replace h17 := of_decide_eq_false h17
    have hl6 : L.length ≤ 1000000 := by
      apply Classical.byContradiction
      intro q
      rw [if_neg q] at h17
      omega
    refine .inl ⟨_, _, _, _, (hEx _ _ get_new), ⟨rfl, by omega⟩, ?_⟩
    refine ⟨_, l_toHopf_ok B E.2.2.1 , rfl, ?_⟩
    refine ⟨_, l_toVectorS_ok B E.2.2.2.1 (hL.ext (hE0.trans hEx)) hl6, ?_⟩
    rintro _ G1 ⟨b1, rfl, hE1, hV1⟩
    have hEx := hEx.trans hE1
    refine ⟨_, s_IsHopfIdeal_ok B E.2.2.2.2.1 hV1 hl6 hz, ?_⟩
    rintro _ _ ⟨rfl, rfl⟩
    refine ⟨_, l_toVectorS_ok B E.2.2.2.1 (hL.ext (hE0.trans hEx)) hl6, ?_⟩
    rintro _ G2 ⟨b2, rfl, hE2, hV2⟩
    have hEx := hEx.trans hE2
    refine .inl ⟨_, _, _, _, (hEx _ _ get_new), ⟨rfl, by omega⟩, ?_⟩
    refine ⟨_, l_toHopf_ok B E.2.2.1 , rfl, ?_⟩
    refine ⟨_, i_IsHopfIdeal_ok B E.2.2.2.2.2.1 (.inr hV2) hl6 hz, ?_⟩
    rintro _ _ ⟨rfl, rfl⟩
    refine ⟨fun h38 => ?_, fun h38 => ?_⟩
    · skip
      simp at h38
    · skip
      refine brB_f ?_
      refine brB_f ?_
      refine brB_f ?_
      refine brB_f' (by simp) ?_
      refine ⟨_, l_toVectorS_ok B E.2.2.2.1 (hL.ext (hE0.trans hEx)) hl6, ?_⟩
      rintro _ G3 ⟨b3, rfl, hE3, hV3⟩
      have hEx := hEx.trans hE3
      refine ⟨_, l_intactVectorS_ok B E.2.2.2.2.2.2 (hV2.ext hE3) hV3 hl6, ?_⟩
      rintro _ _ ⟨rfl, rfl⟩
      refine brB_f ?_
      refine .inl ⟨_, _, _, _, (hEx _ _ get_new), ⟨rfl, by omega⟩, ?_⟩
      refine ⟨_, l_toHopf_ok B E.2.2.1 , rfl, ?_⟩
      refine ⟨_, l_toVectorS_t_ok B E.2.2.2.1 (hL.ext (hE0.trans hEx)) hl6, ?_⟩
      rintro _ G4 ⟨b4, rfl, hE4, hV4⟩
      have hEx := hEx.trans hE4
      refine ⟨_, i_IsHopfIdeal_ok B E.2.2.2.2.2.1 hV4 hl6 hz, ?_⟩
      rintro _ _ ⟨rfl, rfl⟩
      refine ⟨fun h59 => ?_, fun h59 => ?_⟩
      · skip
        simp at h59
      · skip
        refine brB_f ?_
        refine brB_f ?_
        refine brB_f ?_
        refine brB_f' (by simp) ?_
        exact ⟨rfl, rfl, hE0.trans hEx⟩

end Hf
