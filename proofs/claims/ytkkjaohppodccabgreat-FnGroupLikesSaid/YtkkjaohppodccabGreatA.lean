/- The engine, second half: its soundness. -/
import Derived.Test.YtkkjaohppodccabGreatE
set_option linter.unusedVariables false
set_option linter.unusedSimpArgs false
/- The engine, part 9: regions, control, functions. -/
namespace Hf
open Go
structure PI where
 d : Option Nat
 g : Option (Nat × Bool)
 op : PO
 deriving Inhabited

def push (d : Option Nat) (v : Sv) (fr : List (Nat × Sv)) : List (Nat × Sv) := match d with
  | some t => (t, v) :: fr
  | none => fr

/-- a guarded operation; what goes on behind it stands once -/
def gdo (c : Bool) (V : (Sv → List Blk → Prop) → Prop) (d : Option Nat) (fr : List (Nat × Sv)) (hp : List Blk) (K : List (Nat × Sv) → List Blk → Prop) : Prop := match c with
  | true => V fun v H' => K (push d v fr) H'
  | false => K (push d (.tup []) fr) hp

section
variable (P : Program) (ρ : Nat → FuncId)
/-- one operation of a region -/
def vstep (p : PI) (st : St) (K : St → Prop) : Prop := match p, st with
  | ⟨d, none, op⟩, ⟨fr, hp⟩ => vopR P ρ fr hp op fun v H' => K ⟨push d v fr, H'⟩
  | ⟨d, some (s, b), op⟩, ⟨fr, hp⟩ => match lk fr s with
      | some (.one (.b g)) => brB g fun g' => gdo (g' == b) (vopR P ρ ((s, .one (.b g')) :: fr) hp op) d ((s, .one (.b g')) :: fr) hp fun fr' hp' => K ⟨fr', hp'⟩
      | some (.tup _) => K ⟨push d (.tup []) fr, hp⟩
      | _ => False
/-- by the recursor itself: so the kernel and the elaborator come to the same terms -/
noncomputable def vreg (l : List PI) : St → (St → Prop) → Prop :=
 List.rec (motive := fun _ => St → (St → Prop) → Prop) (fun st Q => Q st) (fun p _ ih st Q => vstep P ρ p st fun st' => ih st' Q) l
noncomputable def vregp (l : List (Nat × PI)) : St → (St → Prop) → Prop :=
 List.rec (motive := fun _ => St → (St → Prop) → Prop) (fun st Q => Q st) (fun p _ ih st Q => vstep P ρ p.2 st fun st' => ih st' Q) l
variable {P ρ}
theorem vreg_n {st : St} {Q : St → Prop} : vreg P ρ [] st Q = Q st := rfl
theorem vregp_eq : ∀ {l : List (Nat × PI)} {st : St} {Q : St → Prop}, vregp P ρ l st Q = vreg P ρ (l.map (·.2)) st Q
  | [], _, _ => rfl
  | p :: r, st, Q => by
    show vstep P ρ p.2 st (fun st' => vregp P ρ r st' Q) = vstep P ρ p.2 st (fun st' => vreg P ρ (r.map (·.2)) st' Q)
    congr 1
    funext st'
    exact vregp_eq
theorem vreg_c {p : PI} {r : List PI} {st : St} {Q : St → Prop} : vreg P ρ (p :: r) st Q = match p.g with
    | none => vopR P ρ st.fr st.hp p.op fun v H' => vreg P ρ r ⟨push p.d v st.fr, H'⟩ Q
    | some (s, b) => match lk st.fr s with
      | some (.one (.b g)) => brB g fun g' => gdo (g' == b) (vopR P ρ ((s, .one (.b g')) :: st.fr) st.hp p.op) p.d ((s, .one (.b g')) :: st.fr) st.hp fun fr' hp' => vreg P ρ r ⟨fr', hp'⟩ Q
      | some (.tup _) => vreg P ρ r ⟨push p.d (.tup []) st.fr, st.hp⟩ Q
      | _ => False := by
  obtain ⟨d, g, op⟩ := p
  cases st
  rcases g with _ | ⟨s, b⟩ <;> rfl
end
def chkGuard (ops : Array Oper) (g : Option (Nat × Bool)) (g' : Option (Nat × Bool)) : Bool := match g, g' with
  | none, none => true
  | some (j, b), some (s, b') => b == b' && (ops[j]?).bind (·.dst) == some s
  | _, _ => false

def chkDst (N : Nat) (d d' : Option Nat) : Bool := match d, d' with
  | none, none => true
  | some t, some t' => t == t' && decide (t < N)
  | _, _ => false

/-- operations that hand over no value write no slot -/
def isStore : PO → Bool
  | .sta _ _ _ => true
  | .st8 _ _ => true
  | .st1 _ _ => true
  | _ => false

def chkI (P : Program) (ρ : Nat → FuncId) (N : Nat) (ops : Array Oper) (o : Oper) (p : PI) : Bool :=
 chkDst N o.dst p.d && chkGuard ops o.guard p.g && chkOp P ρ o.op p.op

def chkReg (P : Program) (ρ : Nat → FuncId) (N : Nat) (ops : Array Oper) : List Oper → List PI → Bool
  | o :: l, p :: ps => chkI P ρ N ops o p && chkReg P ρ N ops l ps
  | [], [] => true
  | _, _ => false

section
variable {P : Program} {ρ : Nat → FuncId} {σ₀ : Nat → Nat} {H₀ : List Blk} {w₀ : World} {N : Nat} {σ : Nat → Nat} {w : World} {a : Act} {st : St}
theorem op_sound {o : Oper} {p : PO} {fr : List (Nat × Sv)} {H : List Blk} {K : Sv → List Blk → Prop} {next : Act → World → Prop} {Q : Exit → Act → World → Prop}
    (hfn : ∀ f, fnOk P (ρ f) = true) (hc : chkOp P ρ o.op p = true) (hf : FRel ρ σ a.tmps fr H.length) (hh : HRel ρ σ w H) (hv : vop P ρ fr H p K) (hn : Nx ρ σ H w o a K next) : o.wp P a w next Q := by
  cases p with
  | mov x => exact s_mov hc hf hh hv hn
  | pick c x y => exact s_pick hc hf hh hv hn
  | alo z => exact s_alo hc hf hh hv hn
  | box x => exact s_box hc hf hh hv hn
  | bld h n ps => exact s_bld hc hf hh hv hn
  | lda x h n => exact s_lda hc hf hh hv hn
  | ld8 x => exact s_ld8 hc hf hh hv hn
  | ld1 x => exact s_ld1 hc hf hh hv hn
  | sta x v n => exact s_sta hc hf hh hv hn
  | st8 x v => exact s_st8 hc hf hh hv hn
  | st1 x v => exact s_st1 hc hf hh hv hn
  | nck x => exact s_nck hc hf hh hv hn
  | bin op x y => exact s_bin hc hf hh hv hn
  | nt x => exact s_nt hc hf hh hv hn
  | ng x => exact s_ng hc hf hh hv hn
  | eqa neg n x y => exact s_eqa hc hf hh hv hn
  | eqn neg x => exact s_eqn hc hf hh hv hn
  | eqb neg x y => exact s_eqb hc hf hh hv hn
  | cvt k x => exact s_cvt hc hf hh hv hn
  | mkf f first caps => exact s_mkf hc hf hh hv hn
  | add x c => exact s_add hc hf hh hv hn
  | idx x i len esz => exact s_idx hc hf hh hv hn
  | ids x i esz => exact s_ids hc hf hh hv hn
  | ixb x i len => exact s_ixb hc hf hh hv hn
  | ixa x i len esz => exact s_ixa hc hf hh hv hn
  | ext x j => exact s_ext hc hf hh hv hn
  | call f as => exact s_call hc hf hh hv hn
  | calv x as => exact s_calv hfn hc hf hh hv hn
  | len x => exact s_len hc hf hh hv hn
  | slc x lo hi esz => exact s_slc hc hf hh hv hn
  | bsa xs => exact s_bsa hc hf hh hv hn
  | bsb esz xs => exact s_bsb hc hf hh hv hn
  | bsh h esz xs => exact s_bsh hc hf hh hv hn

theorem op_soundR {o : Oper} {p : PO} {fr : List (Nat × Sv)} {H : List Blk} {K : Sv → List Blk → Prop} {next : Act → World → Prop} {Q : Exit → Act → World → Prop}
    (hfn : ∀ f, fnOk P (ρ f) = true) (hc : chkOp P ρ o.op p = true) (hf : FRel ρ σ a.tmps fr H.length) (hh : HRel ρ σ w H) (hv : vopR P ρ fr H p K) (hn : Nx ρ σ H w o a K next) : o.wp P a w next Q := by
  cases p with
  | call f as => exact s_callR hc hf hh hv hn
  | _ => exact op_sound hfn hc hf hh hv hn

theorem lk_push {d : Option Nat} {v : Sv} {fr : List (Nat × Sv)} {s : Nat} : lk (push d v fr) s = if d = some s then some v else lk fr s := by
  cases d with
  | none => simp [push]
  | some t =>
    by_cases h : t = s
    · subst h; simp [push, lk]
    · simp [push, lk, h]

theorem FRel.put {m m' : Nat} {σ' : Nat → Nat} {d : Option Nat} {v : Sv} {fr : List (Nat × Sv)} (hf : FRel ρ σ a.tmps fr m) (hm : m ≤ m') (hs : ∀ k, k < m → σ' k = σ k) (hv : v.lt m' = true) (hd : ∀ t, d = some t → t < a.tmps.size) :
    FRel ρ σ' (a.put d (renS ρ σ' v)).tmps (push d v fr) m' := by
  refine ⟨?_, ?_⟩
  · intro s u hu
    rw [lk_push] at hu
    split at hu
    · rename_i hds; subst hds
      cases hu
      have := hd s rfl
      simp [Act.put, this]
    · rename_i hds
      have h1 := hf.val s u hu
      rw [renS_congr hs (hf.clo s u hu), ← h1]
      cases d with
      | none => rfl
      | some t =>
        have : t ≠ s := fun e => hds (by rw [e])
        simp [Act.put, Array.getElem?_setIfInBounds_ne this]
  · intro s u hu
    rw [lk_push] at hu
    split at hu
    · cases hu; exact hv
    · exact Sv.lt_mono hm (hf.clo s u hu)

theorem Act.put_size (a : Act) (d : Option Nat) (v : Value) : (a.put d v).tmps.size = a.tmps.size := by
 cases d <;> simp [Act.put]
theorem Act.put_defers' (a : Act) (d : Option Nat) (v : Value) : (a.put d v).defers = a.defers := by
 cases d <;> simp [Act.put]

theorem Inv.step {fr : List (Nat × Sv)} {H' : List Blk} {σ' : Nat → Nat} {w' : World} {d : Option Nat} {v : Sv} (hi : Inv ρ σ₀ H₀ w₀ N σ a w st) (hf : FRel ρ σ a.tmps fr st.hp.length) (sp : Sp ρ σ st.hp w σ' H' w') (hv : v.lt H'.length = true) (hd : ∀ t, d = some t → t < N) :
  Inv ρ σ₀ H₀ w₀ N σ' (a.put d (renS ρ σ' v)) w' ⟨push d v fr, H'⟩ :=
 ⟨hf.put sp.len sp.same hv (fun t ht => by rw [hi.sz]; exact hd t ht), hi.s.trans sp, by rw [Act.put_size]; exact hi.sz, by rw [Act.put_defers']; exact hi.df⟩

theorem chkDst_spec {d d' : Option Nat} (h : chkDst N d d' = true) : d = d' ∧ ∀ t, d = some t → t < N := by
 unfold chkDst at h
 split at h
 ·exact ⟨rfl, fun _ h => by cases h⟩
 ·simp only [Bool.and_eq_true, beq_iff_eq, decide_eq_true_eq] at h
  obtain ⟨rfl, h⟩ := h
  exact ⟨rfl, fun t ht => by cases ht; exact h⟩
 ·cases h

theorem reg_sound {ops : Array Oper} {Q : Exit → Act → World → Prop} (hfn : ∀ f, fnOk P (ρ f) = true) : ∀ {l : List Oper} {ps : List PI} {σ : Nat → Nat} {w : World} {a : Act} {st : St} {Qp : St → Prop}, chkReg P ρ N ops l ps = true → Inv ρ σ₀ H₀ w₀ N σ a w st → vreg P ρ ps st Qp →
    (∀ st' σ' a' w', Qp st' → Inv ρ σ₀ H₀ w₀ N σ' a' w' st' → Q .normal a' w') → wpList P ops Q l a w
  | [], [], σ, w, a, st, Qp, _, hi, hv, hq => hq st σ a w (by rw [vreg_n] at hv; exact hv) hi
  | o :: l, p :: ps, σ, w, a, st, Qp, hc, hi, hv, hq => by
    simp only [chkReg, chkI, Bool.and_eq_true] at hc
    obtain ⟨⟨⟨h1, h2⟩, h3⟩, h4⟩ := hc
    obtain ⟨hd, hdN⟩ := chkDst_spec h1
    simp only [vreg_c] at hv
    unfold wpList
    unfold chkGuard at h2
    split at h2
    · rename_i g1 g2
      rw [if_pos (by simp [Region.wanted, g1])]
      rw [g2] at hv
      refine .inl (op_soundR hfn h3 hi.f hi.s.h hv ?_)
      intro v H' σ' w' hK sp hl
      rw [hd]
      exact reg_sound hfn h4 (hi.step hi.f sp hl (fun t ht => hdN t (by rw [hd]; exact ht))) hK hq
    · rename_i j b s b' g1 g2
      simp only [Bool.and_eq_true, beq_iff_eq] at h2
      obtain ⟨rfl, h2⟩ := h2
      rw [g2] at hv
      simp only at hv
      split at hv
      · rename_i g hg
        replace hv := brB_elim hv
        unfold gdo at hv
        have ht := hi.f.val s _ hg
        have hy : yielded ops a.tmps j = some g := by
          unfold yielded
          rw [h2]
          simp [ht, renS, ren]
        have hfr : FRel ρ σ a.tmps ((s, .one (.b g)) :: st.fr) st.hp.length := by
          refine ⟨?_, ?_⟩
          · intro s' u hu
            simp only [lk] at hu
            split at hu
            · rename_i e; subst e; cases hu; exact ht
            · exact hi.f.val s' u hu
          · intro s' u hu
            simp only [lk] at hu
            split at hu
            · cases hu; rfl
            · exact hi.f.clo s' u hu
        split at hv
        · rename_i hgb
          simp only [beq_iff_eq] at hgb; subst hgb
          rw [if_pos (by simp [Region.wanted, g1, hy])]
          refine .inl (op_soundR hfn h3 hfr hi.s.h hv ?_)
          intro v H' σ' w' hK sp hl
          rw [hd]
          exact reg_sound hfn h4 (hi.step hfr sp hl (fun t ht => hdN t (by rw [hd]; exact ht))) hK hq
        · rename_i hgb
          have hgb' : g ≠ b := by simpa using hgb
          rw [if_neg (by simp [Region.wanted, g1, hy, hgb'])]
          rw [hd]
          exact reg_sound hfn h4 (hi.step (v := .tup []) hfr (Sp.refl hi.s.h) rfl (fun t ht => hdN t (by rw [hd]; exact ht))) hv hq
      · rename_i l hg
        have ht := hi.f.val s _ hg
        have hy : yielded ops a.tmps j = none := by
          unfold yielded
          rw [h2]
          simp [ht, renS]
        rw [if_neg (by simp [Region.wanted, g1, hy])]
        rw [hd]
        exact reg_sound hfn h4 (hi.step (v := .tup []) hi.f (Sp.refl hi.s.h) rfl (fun t ht => hdN t (by rw [hd]; exact ht))) hv hq
      · exact hv.elim
    · cases h2
  | [], _ :: _, _, _, _, _, _, hc, _, _, _ => by simp [chkReg] at hc
  | _ :: _, [], _, _, _, _, _, hc, _, _, _ => by simp [chkReg] at hc
end
end Hf
/- The engine, part 10: what an operation of the abstract state hangs on. -/
namespace Hf
open Go
def Ar.sl : Ar → List Nat
  | .t s => [s]
  | .c _ => []
def slL : List Ar → List Nat
  | [] => []
  | x :: r => x.sl ++ slL r
def slP : List (Nat × Nat × Ar) → List Nat
  | [] => []
  | x :: r => x.2.2.sl ++ slP r
def slO : Option Ar → List Nat
  | none => []
  | some x => x.sl
def PO.sl : PO → List Nat
  | .mov x => x.sl
  | .pick c x y => c.sl ++ x.sl ++ y.sl
  | .alo _ => []
  | .box x => x.sl
  | .bld _ _ ps => slP ps
  | .lda x _ _ => x.sl
  | .ld8 x => x.sl
  | .ld1 x => x.sl
  | .sta x v _ => x.sl ++ v.sl
  | .st8 x v => x.sl ++ v.sl
  | .st1 x v => x.sl ++ v.sl
  | .nck x => x.sl
  | .bin _ x y => x.sl ++ y.sl
  | .nt x => x.sl
  | .ng x => x.sl
  | .eqa _ _ x y => x.sl ++ y.sl
  | .eqn _ x => x.sl
  | .eqb _ x y => x.sl ++ y.sl
  | .cvt _ x => x.sl
  | .mkf _ a b => slL a ++ slL b
  | .add x _ => x.sl
  | .idx x i _ _ => x.sl ++ i.sl
  | .ids x i _ => x.sl ++ i.sl
  | .ixb x i _ => x.sl ++ i.sl
  | .ixa x i _ _ => x.sl ++ i.sl
  | .ext x _ => x.sl
  | .call _ as => slL as
  | .calv x as => x.sl ++ slL as
  | .len x => x.sl
  | .slc x lo hi _ => x.sl ++ slO lo ++ slO hi
  | .bsa xs => slL xs
  | .bsb _ xs => slL xs
  | .bsh _ _ xs => slL xs

section
variable {P : Program} {ρ : Nat → FuncId} {H : List Blk} {fr fr' : List (Nat × Sv)}
theorem ev_congr {x : Ar} (h : ∀ s ∈ x.sl, lk fr s = lk fr' s) : ev fr x = ev fr' x := by
  cases x with
  | t s => exact h s (by simp [Ar.sl])
  | c a => rfl
theorem evs_congr {xs : List Ar} (h : ∀ s ∈ slL xs, lk fr s = lk fr' s) : xs.map (ev fr) = xs.map (ev fr') := by
  induction xs with
  | nil => rfl
  | cons x r ih =>
    simp only [slL, List.mem_append] at h
    rw [List.map_cons, List.map_cons, ih fun s hs => h s (.inr hs), ev_congr fun s hs => h s (.inl hs)]
theorem evo_congr {d : Int} {x : Option Ar} (h : ∀ s ∈ slO x, lk fr s = lk fr' s) : evo fr d x = evo fr' d x := by
  cases x with
  | none => rfl
  | some x => exact ev_congr h
theorem lay_congr {K : Sv → Prop} {n : Nat} : ∀ {ps : List (Nat × Nat × Ar)} {hd : List Int} {f : By}, (∀ s ∈ slP ps, lk fr s = lk fr' s) → lay fr K n ps hd f → lay fr' K n ps hd f
  | [], _, _, _, h => h
  | (off, sz, x) :: r, hd, f, hs, h => by
    simp only [slP, List.mem_append] at hs
    have ih := fun (hd : List Int) (f : By) => lay_congr (K := K) (n := n) (ps := r) (hd := hd) (f := f) (fun s h => hs s (.inr h))
    simp only [lay] at h ⊢
    rw [← ev_congr (x := x) fun s h => hs s (.inl h)]
    split at h
    · split at h
      · rename_i hb; (try rw [hb]); exact ih _ _ h
      · exact h.elim
    · split at h
      · rename_i hb; (try rw [hb]); exact ih _ _ h
      · exact h.elim
    · split at h
      · rename_i hb; (try rw [hb]); exact ih _ _ h
      · exact h.elim
    · exact h.elim
theorem layb_congr {K : By → Prop} {esz : Nat} : ∀ {xs : List Ar} {j : Nat} {f : By}, (∀ s ∈ slL xs, lk fr s = lk fr' s) → layb fr K esz xs j f → layb fr' K esz xs j f
  | [], _, _, _, h => h
  | x :: r, j, f, hs, h => by
    simp only [slL, List.mem_append] at hs
    have ih := fun (j : Nat) (f : By) => layb_congr (K := K) (esz := esz) (xs := r) (j := j) (f := f) (fun s h => hs s (.inr h))
    simp only [layb] at h ⊢
    rw [← ev_congr (x := x) fun s h => hs s (.inl h)]
    split at h
    · split at h
      · rename_i hb; (try rw [hb]); exact ih _ _ h
      · exact h.elim
    · exact h.elim

theorem vop_congr {o : PO} {K : Sv → List Blk → Prop} (h : ∀ s ∈ o.sl, lk fr s = lk fr' s) (hv : vop P ρ fr H o K) : vop P ρ fr' H o K := by
  cases o with
  | mov x => simp only [vop] at *; rw [← ev_congr h]; exact hv
  | pick c x y =>
    simp only [PO.sl, List.mem_append] at h
    simp only [vop] at *
    rw [← ev_congr (x := c) fun s hs => h s (.inl (.inl hs)), ← ev_congr (x := x) fun s hs => h s (.inl (.inr hs)), ← ev_congr (x := y) fun s hs => h s (.inr hs)]
    exact hv
  | alo z => exact hv
  | box x => simp only [vop] at *; rw [← ev_congr h]; exact hv
  | bld hh n ps => exact lay_congr h hv
  | lda x _ _ => simp only [vop] at *; rw [← ev_congr h]; exact hv
  | ld8 x => simp only [vop] at *; rw [← ev_congr h]; exact hv
  | ld1 x => simp only [vop] at *; rw [← ev_congr h]; exact hv
  | sta x v n =>
    simp only [PO.sl, List.mem_append] at h
    simp only [vop] at *
    rw [← ev_congr (x := x) fun s hs => h s (.inl hs), ← ev_congr (x := v) fun s hs => h s (.inr hs)]; exact hv
  | st8 x v =>
    simp only [PO.sl, List.mem_append] at h
    simp only [vop] at *
    rw [← ev_congr (x := x) fun s hs => h s (.inl hs), ← ev_congr (x := v) fun s hs => h s (.inr hs)]; exact hv
  | st1 x v =>
    simp only [PO.sl, List.mem_append] at h
    simp only [vop] at *
    rw [← ev_congr (x := x) fun s hs => h s (.inl hs), ← ev_congr (x := v) fun s hs => h s (.inr hs)]; exact hv
  | nck x => simp only [vop] at *; rw [← ev_congr h]; exact hv
  | bin op x y =>
    simp only [PO.sl, List.mem_append] at h
    simp only [vop] at *
    rw [← ev_congr (x := x) fun s hs => h s (.inl hs), ← ev_congr (x := y) fun s hs => h s (.inr hs)]; exact hv
  | nt x => simp only [vop] at *; rw [← ev_congr h]; exact hv
  | ng x => simp only [vop] at *; rw [← ev_congr h]; exact hv
  | eqa neg n x y =>
    simp only [PO.sl, List.mem_append] at h
    simp only [vop] at *
    rw [← ev_congr (x := x) fun s hs => h s (.inl hs), ← ev_congr (x := y) fun s hs => h s (.inr hs)]; exact hv
  | eqn neg x => simp only [vop] at *; rw [← ev_congr h]; exact hv
  | eqb neg x y =>
    simp only [PO.sl, List.mem_append] at h
    simp only [vop] at *
    rw [← ev_congr (x := x) fun s hs => h s (.inl hs), ← ev_congr (x := y) fun s hs => h s (.inr hs)]; exact hv
  | cvt k x => simp only [vop] at *; rw [← ev_congr h]; exact hv
  | mkf f a b =>
    simp only [PO.sl, List.mem_append] at h
    simp only [vop] at *
    rw [← evs_congr (xs := a) fun s hs => h s (.inl hs), ← evs_congr (xs := b) fun s hs => h s (.inr hs)]; exact hv
  | add x c => simp only [vop] at *; rw [← ev_congr h]; exact hv
  | idx x i l e =>
    simp only [PO.sl, List.mem_append] at h
    simp only [vop] at *
    rw [← ev_congr (x := x) fun s hs => h s (.inl hs), ← ev_congr (x := i) fun s hs => h s (.inr hs)]; exact hv
  | ids x i e =>
    simp only [PO.sl, List.mem_append] at h
    simp only [vop] at *
    rw [← ev_congr (x := x) fun s hs => h s (.inl hs), ← ev_congr (x := i) fun s hs => h s (.inr hs)]; exact hv
  | ixb x i l =>
    simp only [PO.sl, List.mem_append] at h
    simp only [vop] at *
    rw [← ev_congr (x := x) fun s hs => h s (.inl hs), ← ev_congr (x := i) fun s hs => h s (.inr hs)]; exact hv
  | ixa x i l e =>
    simp only [PO.sl, List.mem_append] at h
    simp only [vop] at *
    rw [← ev_congr (x := x) fun s hs => h s (.inl hs), ← ev_congr (x := i) fun s hs => h s (.inr hs)]; exact hv
  | ext x j => simp only [vop] at *; rw [← ev_congr h]; exact hv
  | call f as => simp only [vop] at *; rw [← evs_congr h]; exact hv
  | calv x as =>
    simp only [PO.sl, List.mem_append] at h
    simp only [vop] at *
    rw [← ev_congr (x := x) fun s hs => h s (.inl hs), ← evs_congr (xs := as) fun s hs => h s (.inr hs)]; exact hv
  | len x => simp only [vop] at *; rw [← ev_congr h]; exact hv
  | slc x lo hi e =>
    simp only [PO.sl, List.mem_append] at h
    simp only [vop] at *
    rw [← ev_congr (x := x) fun s hs => h s (.inl (.inl hs))]
    split at hv
    · rw [← evo_congr (x := lo) fun s hs => h s (.inl (.inr hs)), ← evo_congr (x := hi) fun s hs => h s (.inr hs)]; exact hv
    · exact hv
  | bsa xs => simp only [vop] at *; rw [← evs_congr h]; exact hv
  | bsb e xs => exact layb_congr h hv
  | bsh hh e xs => simp only [vop] at *; rw [← evs_congr h]; exact hv

/-! ### an operation yields one value and one heap -/
def Wit (V : (Sv → List Blk → Prop) → Prop) (K : Sv → List Blk → Prop) : Prop := ∃ v H', K v H' ∧ ∀ K' : Sv → List Blk → Prop, K' v H' → V K'

theorem vcall_wit {f : Nat} {l : List At} {K : Sv → List Blk → Prop} (h : vcall P ρ H f l K) : Wit (vcall P ρ H f l) K := by
 obtain ⟨m, τ, as, Hc, v, Hc', H', h0, h1, h2, h3, h4, h6, h5⟩ := h
 exact ⟨_, _, h5, fun K' h' => ⟨m, τ, as, Hc, v, Hc', H', h0, h1, h2, h3, h4, h6, h'⟩⟩

theorem lay_wit {n : Nat} : ∀ {ps : List (Nat × Nat × Ar)} {hd : List Int} {f : By} {K : Sv → Prop}, lay fr K n ps hd f → ∃ v, K v ∧ ∀ K' : Sv → Prop, K' v → lay fr K' n ps hd f
  | [], hd, f, K, h => ⟨_, h, fun _ h => h⟩
  | (off, sz, x) :: r, hd, f, K, h => by
    simp only [lay] at h ⊢
    split at h
    · split at h
      · rename_i hb; (try rw [hb]); exact lay_wit h
      · exact h.elim
    · split at h
      · rename_i hb; (try rw [hb]); exact lay_wit h
      · exact h.elim
    · split at h
      · rename_i hb; (try rw [hb]); exact lay_wit h
      · exact h.elim
    · exact h.elim
theorem layb_wit {esz : Nat} : ∀ {xs : List Ar} {j : Nat} {f : By} {K : By → Prop}, layb fr K esz xs j f → ∃ v, K v ∧ ∀ K' : By → Prop, K' v → layb fr K' esz xs j f
  | [], _, f, K, h => ⟨_, h, fun _ h => h⟩
  | x :: r, j, f, K, h => by
    simp only [layb] at h ⊢
    split at h
    · split at h
      · rename_i hb; (try rw [hb]); exact layb_wit h
      · exact h.elim
    · exact h.elim

theorem vbin_wit {op : BinOp} {x y : Option Sv} {K : Sv → Prop} (h : vbin op K x y) : ∃ v, K v ∧ ∀ K' : Sv → Prop, K' v → vbin op K' x y := by
 unfold vbin at h ⊢
 split at h
 ·split at h
  ·obtain ⟨z, e, h⟩ := h; exact ⟨_, h, fun _ h' => ⟨z, e, h'⟩⟩
  ·obtain ⟨z, e, h⟩ := h; exact ⟨_, h, fun _ h' => ⟨z, e, h'⟩⟩
  ·obtain ⟨z, e, h⟩ := h; exact ⟨_, h, fun _ h' => ⟨z, e, h'⟩⟩
  ·obtain ⟨h0, z, e, h⟩ := h; exact ⟨_, h, fun _ h' => ⟨h0, z, e, h'⟩⟩
  ·obtain ⟨h0, z, e, h⟩ := h; exact ⟨_, h, fun _ h' => ⟨h0, z, e, h'⟩⟩
  ·exact ⟨_, h, fun _ h => h⟩
  ·exact ⟨_, h, fun _ h => h⟩
  ·exact ⟨_, h, fun _ h => h⟩
  ·exact ⟨_, h, fun _ h => h⟩
  ·exact ⟨_, h, fun _ h => h⟩
  ·exact ⟨_, h, fun _ h => h⟩
  ·exact h.elim
 ·split at h
  ·exact ⟨_, h, fun _ h => h⟩
  ·exact ⟨_, h, fun _ h => h⟩
  ·exact h.elim
 ·exact h.elim

theorem vop_wit {o : PO} {K : Sv → List Blk → Prop} (hv : vop P ρ fr H o K) : Wit (vop P ρ fr H o) K := by
  cases o with
  | pick c x y =>
    simp only [Wit, vop] at hv ⊢
    split at hv
    · rename_i b hb
      replace hv := brB_elim hv
      split at hv
      · rename_i v hx
        refine ⟨_, _, hv, fun K' h => ?_⟩
        refine brB_intro (fun e => ?_) (fun e => ?_) <;> subst e <;> simp only [if_true, Bool.false_eq_true, if_false] at hx ⊢ <;> rw [hx] <;> exact h
      · exact hv.elim
    · exact hv.elim
  | bld hh n ps =>
    obtain ⟨v, h1, h2⟩ := lay_wit hv
    exact ⟨v, H, h1, fun K' h => h2 _ h⟩
  | bin op x y =>
    simp only [Wit, vop] at hv ⊢
    obtain ⟨v, h1, h2⟩ := vbin_wit hv
    exact ⟨v, H, h1, fun K' h => h2 (fun v => K' v H) h⟩
  | eqa neg n x y =>
    simp only [Wit, vop] at hv ⊢
    split at hv
    · split at hv
      · rename_i hb; (try simp only [hb]); exact ⟨_, _, hv, fun _ h => h⟩
      · exact hv.elim
    · exact hv.elim
  | eqb neg x y =>
    simp only [Wit, vop] at hv ⊢
    split at hv
    · exact ⟨_, _, hv, fun _ h => h⟩
    · exact hv.elim
  | eqn neg x =>
    simp only [Wit, vop] at hv ⊢
    split at hv
    · exact ⟨_, _, hv, fun _ h => h⟩
    · exact ⟨_, _, hv, fun _ h => h⟩
    · exact hv.elim
  | call f as =>
    simp only [Wit, vop] at hv ⊢
    split at hv
    · exact vcall_wit hv
    · exact hv.elim
  | calv x as =>
    simp only [Wit, vop] at hv ⊢
    split at hv
    · exact vcall_wit hv
    · exact hv.elim
  | bsb e xs =>
    obtain ⟨v, ⟨m, e, h1⟩, h2⟩ := layb_wit hv
    exact ⟨_, _, h1, fun K' h => h2 _ ⟨m, e, h⟩⟩
  | alo z => obtain ⟨m, e, h⟩ := hv; exact ⟨_, _, h, fun _ h => ⟨m, e, h⟩⟩
  | _ =>
    simp only [Wit, vop] at hv ⊢
    (repeat' split at hv) <;> first
      | exact hv.elim
      | exact ⟨_, _, hv, fun _ h => h⟩
      | exact ⟨_, _, hv.2, fun _ h => ⟨hv.1, h⟩⟩
      | (obtain ⟨x, y, e1, e2, e3, h⟩ := hv; exact ⟨_, _, h, fun _ h => ⟨x, y, e1, e2, e3, h⟩⟩)
      | (obtain ⟨z, e, h⟩ := hv; exact ⟨_, _, h, fun _ h => ⟨z, e, h⟩⟩)
      | (obtain ⟨z, e1, e2, e3, h⟩ := hv; exact ⟨_, _, h, fun _ h => ⟨z, e1, e2, e3, h⟩⟩)
      | (obtain ⟨z, q, g, e1, e2, e3, h⟩ := hv; exact ⟨_, _, h, fun _ h => ⟨z, q, g, e1, e2, e3, h⟩⟩)
      | (obtain ⟨z, q, e1, e2, e3, h⟩ := hv; exact ⟨_, _, h, fun _ h => ⟨z, q, e1, e2, e3, h⟩⟩)
      | exact hv.2.elim
end
end Hf
/- The engine, part 11: a region whose order Go leaves open. -/
namespace Hf
open Go
/-- a new variable of such a region: its operation, its slot, what it holds at first; the store into it: its operation, what is stored, its size -/
structure NI where
 i : Nat
 d : Nat
 z : Zk
 s : Option (Nat × Ar × Nat)

def Zk.size : Zk → Nat
  | .by _ n => n
  | _ => 1

def PO.pure : PO → Bool
  | .call _ _ => false
  | .calv _ _ => false
  | .alo _ => false
  | .box _ => false
  | .sta _ _ _ => false
  | .st8 _ _ => false
  | .st1 _ _ => false
  | .bsa _ => false
  | .bsb _ _ => false
  | .bsh _ _ _ => false
  | _ => true

section
variable (P : Program) (ρ : Nat → FuncId)
/-- an operation that leaves the blocks as they are -/
def vopX (fr : List (Nat × Sv)) (H : List Blk) (o : PO) (K : Sv → Prop) : Prop := match o.pure with
  | true => vop P ρ fr H o fun v _ => K v
  | false => vop P ρ fr H o fun v H' => H' = H ∧ K v

def xstep (H : List Blk) (p : Nat × PI) (fr : List (Nat × Sv)) (K : List (Nat × Sv) → Prop) : Prop := match p with
  | (_, ⟨d, none, op⟩) => vopX P ρ fr H op fun v => K (push d v fr)
  | (_, ⟨d, some (s, b), op⟩) => match lk fr s with
      | some (.one (.b g)) => brB g fun g' => gdo (g' == b) (fun K' => vopX P ρ ((s, .one (.b g')) :: fr) H op fun v => K' v H) d ((s, .one (.b g')) :: fr) H fun fr' _ => K fr'
      | some (.tup _) => K (push d (.tup []) fr)
      | _ => False
noncomputable def vX (H : List Blk) (xs : List (Nat × PI)) : List (Nat × Sv) → (List (Nat × Sv) → Prop) → Prop :=
 List.rec (motive := fun _ => List (Nat × Sv) → (List (Nat × Sv) → Prop) → Prop) (fun fr Q => Q fr) (fun p _ ih fr Q => xstep P ρ H p fr fun fr' => ih fr' Q) xs
variable {P ρ}
theorem vX_c {H : List Blk} {p : Nat × PI} {r : List (Nat × PI)} {fr : List (Nat × Sv)} {Q : List (Nat × Sv) → Prop} : vX P ρ H (p :: r) fr Q = match p.2.g with
    | none => vopX P ρ fr H p.2.op fun v => vX P ρ H r (push p.2.d v fr) Q
    | some (s, b) => match lk fr s with
      | some (.one (.b g)) => brB g fun g' => gdo (g' == b) (fun K => vopX P ρ ((s, .one (.b g')) :: fr) H p.2.op fun v => K v H) p.2.d ((s, .one (.b g')) :: fr) H fun fr' _ => vX P ρ H r fr' Q
      | some (.tup _) => vX P ρ H r (push p.2.d (.tup []) fr) Q
      | _ => False := by
  obtain ⟨i, d, g, op⟩ := p
  rcases g with _ | ⟨s, b⟩ <;> rfl
end
/-- what a new variable holds in the end -/
def vcont (fr : List (Nat × Sv)) (q : NI) (K : Bk → Prop) : Prop := match q.s with
  | none => K q.z.bk
  | some (_, x, _) => match ev fr x with
    | some (.one (.ag hd n f)) => match q.z with
      | .by _ m => n = m ∧ K (.by hd n f)
      | _ => False
    | some (.one a) => match q.z with
      | .by _ _ => False
      | _ => a.cell1 = true ∧ K (.vr a)
    | _ => False

def nstep (fr0 : List (Nat × Sv)) (q : NI) (fr : List (Nat × Sv)) (H : List Blk) (K : List (Nat × Sv) → List Blk → Prop) : Prop :=
 ∃ m, H.length = m ∧ vcont fr0 q fun c => K ((q.d, .one (.pt m 0)) :: fr) (H ++ [⟨false, c⟩])
noncomputable def vN (fr0 : List (Nat × Sv)) (ns : List NI) : List (Nat × Sv) → List Blk → (St → Prop) → Prop :=
 List.rec (motive := fun _ => List (Nat × Sv) → List Blk → (St → Prop) → Prop) (fun fr H Q => Q ⟨fr, H⟩) (fun q _ ih fr H Q => nstep fr0 q fr H fun fr' H' => ih fr' H' Q) ns

noncomputable def vdrx (P : Program) (ρ : Nat → FuncId) (xs : List (Nat × PI)) (ns : List NI) (fs : List (Nat × PI)) (st : St) (Q : St → Prop) : Prop := match st with
  | ⟨fr, hp⟩ => vX P ρ hp xs fr fun fr => vN fr ns fr hp fun st' => vregp P ρ fs st' Q
noncomputable def vdrw (P : Program) (ρ : Nat → FuncId) (es xs : List (Nat × PI)) (ns : List NI) (fs : List (Nat × PI)) (st : St) (Q : St → Prop) : Prop :=
 vregp P ρ es st fun st' => vdrx P ρ xs ns fs st' Q

/-! ### the check -/
def bt (B : List Nat) (i j : Nat) : Bool := (B.getD i 0).testBit j
def needs (o : Oper) : List Nat := (o.after.toList.filter (Region.binds .any)).map (·.on)
def upB (B : List Nat) : List Nat → Nat
  | [] => 0
  | n :: r => (2 ^ n ||| B.getD n 0) ||| upB B r
def okB (ops : Array Oper) (B : List Nat) : Bool := (List.range ops.size).all fun d => match ops[d]? with
  | some o => (needs o).all (fun n => decide (n < d)) && ((B.getD d 0 ||| upB B (needs o)) == upB B (needs o))
  | none => false
def nodupB : List Nat → Bool
  | [] => true
  | x :: r => !r.contains x && nodupB r
def storeIx (ns : List NI) : List Nat := ns.filterMap fun q => q.s.map (·.1)
def dstOf (ops : Array Oper) (i : Nat) : Option Nat := (ops[i]?).bind (·.dst)
def guardSl : Option (Nat × Bool) → List Nat
  | none => []
  | some (s, _) => [s]
/-- slot s is read by operation x, 'bf' being what was done before it -/
def readOk (ops : Array Oper) (B : List Nat) (bf : List Nat) (x : Nat) (s : Nat) : Bool :=
 (List.range ops.size).all fun j => dstOf ops j != some s || (j != x && (if bf.contains j then bt B x j else bt B j x))
def chkX (P : Program) (ρ : Nat → FuncId) (N : Nat) (ops : Array Oper) (B : List Nat) : List Nat → List (Nat × PI) → Bool
  | bf, (i, p) :: r => (match ops[i]? with
    | some o => chkI P ρ N ops o p
    | none => false) && (p.op.sl ++ guardSl p.g).all (readOk ops B bf i) && chkX P ρ N ops B (i :: bf) r
  | _, [] => true
def chkN (P : Program) (ρ : Nat → FuncId) (N : Nat) (ops : Array Oper) (B : List Nat) (bf : List Nat) (q : NI) : Bool :=
  (match ops[q.i]? with
    | some o => o.dst == some q.d && decide (q.d < N) && o.guard.isNone && chkOp P ρ o.op (.alo q.z)
    | none => false) &&
  match q.s with
  | none => true
  | some (j, x, m) => bt B j q.i && q.z.size == m && x.sl.all (readOk ops B bf j) && match ops[j]? with
    | some o => o.dst.isNone && o.guard.isNone && (match o.op with
      | .store t (.tmp d) v => d == q.d && sizeT P t == some m && chkAr ρ v x
      | _ => false)
    | none => false
def chkF (P : Program) (ρ : Nat → FuncId) (N : Nat) (ops : Array Oper) (B : List Nat) : List Nat → List (Nat × PI) → Bool
  | bf, (i, p) :: r => (match ops[i]? with
    | some o => chkI P ρ N ops o p
    | none => false) && bf.all (bt B i) && chkF P ρ N ops B (i :: bf) r
  | _, [] => true
/-- the operations that all others wait for, one behind the other -/
def chkE (P : Program) (ρ : Nat → FuncId) (N : Nat) (ops : Array Oper) (B : List Nat) : List Nat → List (Nat × PI) → Bool
  | bf, (i, p) :: r => (match ops[i]? with
    | some o => chkI P ρ N ops o p
    | none => false) && (List.range ops.size).all (fun k => bf.contains k || k == i || bt B k i) && chkE P ρ N ops B (i :: bf) r
  | _, [] => true
def chkDrw (P : Program) (ρ : Nat → FuncId) (N : Nat) (ops : Array Oper) (es xs : List (Nat × PI)) (ns : List NI) (fs : List (Nat × PI)) (B : List Nat) : Bool :=
 let ei := es.map (·.1)
 let xi := xs.map (·.1)
 let early := xi ++ (ns.map (·.i) ++ storeIx ns)
 okB ops B && nodupB (ei ++ (early ++ fs.map (·.1))) && (List.range ops.size).all (fun i => (ei ++ (early ++ fs.map (·.1))).contains i) && nodupB ((List.range ops.size).filterMap (dstOf ops)) &&
  chkX P ρ N ops B ei xs && ns.all (chkN P ρ N ops B (xi ++ ei)) && chkF P ρ N ops B early fs && chkE P ρ N ops B [] es

/-! ### what an operation waits for -/
section
variable {ops : Array Oper} {B : List Nat}
theorem upB_bit {j : Nat} : ∀ {l : List Nat}, (upB B l).testBit j = true → ∃ n ∈ l, n = j ∨ bt B n j = true
  | [], h => by simp [upB] at h
  | n :: r, h => by
    simp only [upB, Nat.testBit_or, Bool.or_eq_true] at h
    rcases h with (h | h) | h
    · rw [Nat.testBit_two_pow] at h
      exact ⟨n, by simp, .inl (by simpa using h)⟩
    · exact ⟨n, by simp, .inr h⟩
    · obtain ⟨m, h1, h2⟩ := upB_bit h
      exact ⟨m, by simp [h1], h2⟩

theorem okB_spec (h : okB ops B = true) {d : Nat} {o : Oper} (ho : ops[d]? = some o) : (∀ n ∈ needs o, n < d) ∧ ∀ j, bt B d j = true → ∃ n ∈ needs o, n = j ∨ bt B n j = true := by
 have hd : d < ops.size := (Array.getElem?_eq_some_iff.1 ho).1
 have := List.all_eq_true.1 h d (List.mem_range.2 hd)
 rw [ho] at this
 simp only [Bool.and_eq_true, List.all_eq_true, decide_eq_true_eq, beq_iff_eq] at this
 refine ⟨this.1, fun j hj => ?_⟩
 apply upB_bit
 rw [← this.2, Nat.testBit_or]
 unfold bt at hj
 rw [hj, Bool.true_or]

/-- what is done is closed -/
def Closed (ops : Array Oper) (D : Nat → Prop) : Prop := ∀ i o, ops[i]? = some o → D i → ∀ n ∈ needs o, D n

theorem Closed.wait {D : Nat → Prop} (hB : okB ops B = true) (hc : Closed ops D) : ∀ (d : Nat), d < ops.size → D d → ∀ j, bt B d j = true → D j := by
 intro d
 induction d using Nat.strongRecOn with
 | _ d ih =>
  intro hd hD j hj
  have ho : ops[d]? = some ops[d] := Array.getElem?_eq_getElem hd
  obtain ⟨h1, h2⟩ := okB_spec hB ho
  obtain ⟨n, hn, h⟩ := h2 j hj
  have hDn := hc d _ ho hD n hn
  rcases h with rfl | h
  ·exact hDn
  ·exact ih n (h1 n hn) (by have := h1 n hn; omega) hDn j h
theorem Closed.ready {D : Nat → Prop} (hB : okB ops B = true) (hc : Closed ops D) {d : Nat} {o : Oper} (ho : ops[d]? = some o) (hn : ∀ n ∈ needs o, D n) : ∀ j, bt B d j = true → D j := by
 intro j hj
 obtain ⟨h1, h2⟩ := okB_spec hB ho
 obtain ⟨n, hm, h⟩ := h2 j hj
 have hd : d < ops.size := (Array.getElem?_eq_some_iff.1 ho).1
 rcases h with rfl | h
 ·exact hn _ hm
 ·exact hc.wait hB n (by have := h1 n hm; omega) (hn n hm) j h
end
section
variable {P : Program} {ρ : Nat → FuncId} {H : List Blk} {fr : List (Nat × Sv)}
theorem pure_heap {o : PO} (ho : o.pure = true) {K : Sv → List Blk → Prop} (hv : vop P ρ fr H o K) : ∃ v, K v H ∧ ∀ K' : Sv → List Blk → Prop, K' v H → vop P ρ fr H o K' := by
  cases o with
  | pick c x y =>
    obtain ⟨v, H', h1, h2⟩ := vop_wit hv
    have : vop P ρ fr H (.pick c x y) (fun v' H'' => (v' = v ∧ H'' = H') ∧ H'' = H) := by
      have h3 := h2 (fun v' H'' => v' = v ∧ H'' = H') ⟨rfl, rfl⟩
      simp only [vop] at h3 ⊢
      split at h3
      · rename_i b hb
        replace h3 := brB_elim h3
        split at h3
        · rename_i u hx
          refine brB_intro (fun e => ?_) (fun e => ?_) <;> subst e <;> simp only [if_true, Bool.false_eq_true, if_false] at hx ⊢ <;> rw [hx] <;> first | exact ⟨h3, rfl⟩ | exact ⟨h3, trivial⟩
        · exact h3.elim
      · exact h3.elim
    obtain ⟨v2, H2, ⟨⟨rfl, rfl⟩, rfl⟩, -⟩ := vop_wit this
    exact ⟨v2, h1, h2⟩
  | bld hh n ps =>
    obtain ⟨v, h1, h2⟩ := lay_wit hv
    exact ⟨v, h1, fun K' h => h2 _ h⟩
  | bin op x y =>
    simp only [vop] at hv ⊢
    obtain ⟨v, h1, h2⟩ := vbin_wit hv
    exact ⟨v, h1, fun K' h => h2 (fun v => K' v H) h⟩
  | eqa neg n x y =>
    simp only [vop] at hv ⊢
    split at hv
    · split at hv
      · rename_i hb; (try simp only [hb]); exact ⟨_, hv, fun _ h => h⟩
      · exact hv.elim
    · exact hv.elim
  | eqb neg x y =>
    simp only [vop] at hv ⊢
    split at hv
    · exact ⟨_, hv, fun _ h => h⟩
    · exact hv.elim
  | eqn neg x =>
    simp only [vop] at hv ⊢
    split at hv
    · exact ⟨_, hv, fun _ h => h⟩
    · exact ⟨_, hv, fun _ h => h⟩
    · exact hv.elim
  | call f as => cases ho
  | calv x as => cases ho
  | bsb e xs => cases ho
  | bsh hh e xs => cases ho
  | alo z => cases ho
  | box z => cases ho
  | sta x v n => cases ho
  | st8 x v => cases ho
  | st1 x v => cases ho
  | bsa xs => cases ho
  | _ =>
    simp only [vop] at hv ⊢
    (repeat' split at hv) <;> first
      | exact hv.elim
      | exact ⟨_, hv, fun _ h => h⟩
      | exact ⟨_, hv.2, fun _ h => ⟨hv.1, h⟩⟩
      | (obtain ⟨x, y, e1, e2, e3, h⟩ := hv; exact ⟨_, h, fun _ h => ⟨x, y, e1, e2, e3, h⟩⟩)
      | (obtain ⟨z, e, h⟩ := hv; exact ⟨_, h, fun _ h => ⟨z, e, h⟩⟩)
      | (obtain ⟨z, e1, e2, e3, h⟩ := hv; exact ⟨_, h, fun _ h => ⟨z, e1, e2, e3, h⟩⟩)
      | (obtain ⟨z, q, g, e1, e2, e3, h⟩ := hv; exact ⟨_, h, fun _ h => ⟨z, q, g, e1, e2, e3, h⟩⟩)
      | (obtain ⟨z, q, e1, e2, e3, h⟩ := hv; exact ⟨_, h, fun _ h => ⟨z, q, e1, e2, e3, h⟩⟩)
      | exact hv.2.elim

theorem vopX_wit {o : PO} {K : Sv → Prop} (hv : vopX P ρ fr H o K) : ∃ v, K v ∧ vop P ρ fr H o (fun v' H' => v' = v ∧ H' = H) := by
 unfold vopX at hv
 split at hv
 ·rename_i ho
  obtain ⟨v, h1, h2⟩ := pure_heap ho hv
  exact ⟨v, h1, h2 _ ⟨rfl, rfl⟩⟩
 ·obtain ⟨v, H', ⟨rfl, h1⟩, h2⟩ := vop_wit hv
  exact ⟨v, h1, h2 _ ⟨rfl, rfl⟩⟩

/-- a guard that is not met -/
def offB (b : Bool) : Sv → Bool
  | .one (.b g) => g != b
  | .tup _ => true
  | _ => false
/-- one operation of the list, with what it yields -/
def One (P : Program) (ρ : Nat → FuncId) (H : List Blk) (fr : List (Nat × Sv)) (p : PI) (v : Sv) : Prop := match p.g with
  | none => vop P ρ fr H p.op (fun v' H' => v' = v ∧ H' = H)
  | some (s, b) => ∃ u, lk fr s = some u ∧ ((u = .one (.b b) ∧ vop P ρ fr H p.op (fun v' H' => v' = v ∧ H' = H)) ∨ (offB b u = true ∧ v = .tup []))

def ResL (P : Program) (ρ : Nat → FuncId) (H : List Blk) : List (Nat × PI × Sv) → List (Nat × Sv) → List (Nat × Sv) → Prop
  | [], fr, fr' => ∀ s, lk fr' s = lk fr s
  | x :: r, fr, fr' => One P ρ H fr x.2.1 x.2.2 ∧ ResL P ρ H r (push x.2.1.d x.2.2 fr) fr'

theorem lk_dup {s : Nat} {v : Sv} (h : lk fr s = some v) (t : Nat) : lk ((s, v) :: fr) t = lk fr t := by
 simp only [lk]
 split
 ·rename_i e; rw [← e]; exact h.symm
 ·rfl
theorem lk_push_congr {fr fr' : List (Nat × Sv)} {d : Option Nat} {v : Sv} (h : ∀ t, lk fr t = lk fr' t) (t : Nat) : lk (push d v fr) t = lk (push d v fr') t := by
 rw [lk_push, lk_push, h]
theorem One_congr {fr fr' : List (Nat × Sv)} {p : PI} {v : Sv} (h : ∀ t, lk fr t = lk fr' t) (ho : One P ρ H fr p v) : One P ρ H fr' p v := by
 unfold One at *
 split
 ·rename_i hg; simp only [hg] at ho; exact vop_congr (fun s _ => h s) ho
 ·rename_i s b hg; simp only [hg] at ho
  obtain ⟨g, h1, h2⟩ := ho
  exact ⟨g, by rw [← h]; exact h1, h2.imp (fun e => ⟨e.1, vop_congr (fun s _ => h s) e.2⟩) id⟩
theorem ResL_congr : ∀ {L : List (Nat × PI × Sv)} {fr1 fr2 fr' : List (Nat × Sv)}, (∀ t, lk fr1 t = lk fr2 t) → ResL P ρ H L fr1 fr' → ResL P ρ H L fr2 fr'
  | [], _, _, _, h, hr => fun s => (hr s).trans (h s)
  | x :: r, _, _, _, h, hr => ⟨One_congr h hr.1, ResL_congr (lk_push_congr h) hr.2⟩

theorem vX_res : ∀ {xs : List (Nat × PI)} {fr : List (Nat × Sv)} {Q : List (Nat × Sv) → Prop}, vX P ρ H xs fr Q → ∃ (L : List (Nat × PI × Sv)) (fr' : List (Nat × Sv)), L.map (fun x => (x.1, x.2.1)) = xs ∧ ResL P ρ H L fr fr' ∧ Q fr'
  | [], fr, Q, h => ⟨[], fr, rfl, fun _ => rfl, h⟩
  | (i, p) :: r, fr, Q, h => by
    rw [vX_c] at h
    simp only at h
    split at h
    · rename_i hg
      obtain ⟨v, h1, h2⟩ := vopX_wit h
      obtain ⟨L, fr', e1, e2, e3⟩ := vX_res h1
      exact ⟨(i, p, v) :: L, fr', by simp [e1], ⟨by unfold One; rw [hg]; exact h2, e2⟩, e3⟩
    · rename_i s b hg
      split at h
      · rename_i g hlk
        replace h := brB_elim h
        unfold gdo at h
        have hd := lk_dup hlk
        split at h
        · rename_i hgb
          obtain ⟨v, h1, h2⟩ := vopX_wit h
          obtain ⟨L, fr', e1, e2, e3⟩ := vX_res h1
          refine ⟨(i, p, v) :: L, fr', by simp [e1], ⟨?_, ResL_congr (lk_push_congr hd) e2⟩, e3⟩
          unfold One; rw [hg]
          have hgb' : g = b := by simpa using hgb
          exact ⟨_, hlk, .inl ⟨by rw [hgb'], vop_congr (fun s _ => hd s) h2⟩⟩
        · rename_i hgb
          obtain ⟨L, fr', e1, e2, e3⟩ := vX_res h
          refine ⟨(i, p, .tup []) :: L, fr', by simp [e1], ⟨?_, ResL_congr (lk_push_congr hd) e2⟩, e3⟩
          unfold One; rw [hg]
          have hgb' : g ≠ b := by simpa using hgb
          exact ⟨_, hlk, .inr ⟨by simp [offB, hgb'], rfl⟩⟩
      · rename_i l hlk
        obtain ⟨L, fr', e1, e2, e3⟩ := vX_res h
        refine ⟨(i, p, .tup []) :: L, fr', by simp [e1], ⟨?_, e2⟩, e3⟩
        unfold One; rw [hg]
        exact ⟨_, hlk, .inr ⟨rfl, rfl⟩⟩
      · exact h.elim

/-- behind the list: what a slot holds -/
theorem ResL_lk : ∀ {L : List (Nat × PI × Sv)} {fr fr' : List (Nat × Sv)} {s : Nat} {u : Sv}, ResL P ρ H L fr fr' → lk fr' s = some u →
    (∃ y ∈ L, y.2.1.d = some s ∧ (∀ z ∈ L, z.2.1.d = some s → z.1 = y.1 → z.2.2 = u)) ∨ ((∀ y ∈ L, y.2.1.d ≠ some s) ∧ lk fr s = some u) ∨ ∃ y ∈ L, ∃ z ∈ L, y.2.1.d = some s ∧ z.2.1.d = some s ∧ y ≠ z
  | [], fr, fr', s, u, h, e => .inr (.inl ⟨by simp, by rw [← h s]; exact e⟩)
  | x :: r, fr, fr', s, u, h, e => by
    by_cases hx : x.2.1.d = some s
    · by_cases hr : ∃ y ∈ r, y.2.1.d = some s ∧ y ≠ x
      · obtain ⟨y, hy, hyd, hne⟩ := hr
        exact .inr (.inr ⟨y, by simp [hy], x, by simp, hyd, hx, hne⟩)
      · refine .inl ⟨x, by simp, hx, ?_⟩
        have hr' : ∀ y ∈ r, y.2.1.d = some s → y = x := fun y hy hyd => Classical.byContradiction fun hne => hr ⟨y, hy, hyd, hne⟩
        rcases ResL_lk h.2 e with ⟨y, hy, hyd, hall⟩ | ⟨hno, hlk⟩ | ⟨y, hy, z, hz, hyd, hzd, hne⟩
        · have hyx := hr' y hy hyd
          have := hall y hy hyd rfl
          subst hyx
          intro z hz hzd hzi
          rcases List.mem_cons.1 hz with rfl | hz
          · exact this
          · rw [hr' z hz hzd]; exact this
        · rw [lk_push, hx, if_pos rfl] at hlk
          cases hlk
          intro z hz hzd _
          rcases List.mem_cons.1 hz with rfl | hz
          · rfl
          · exact (hno z hz hzd).elim
        · exact (hne ((hr' y hy hyd).trans (hr' z hz hzd).symm)).elim
    · rcases ResL_lk h.2 e with ⟨y, hy, hyd, hall⟩ | ⟨hno, hlk⟩ | ⟨y, hy, z, hz, hyd, hzd, hne⟩
      · refine .inl ⟨y, by simp [hy], hyd, ?_⟩
        intro z hz hzd hzi
        rcases List.mem_cons.1 hz with rfl | hz
        · exact (hx hzd).elim
        · exact hall z hz hzd hzi
      · refine .inr (.inl ⟨?_, ?_⟩)
        · intro y hy
          rcases List.mem_cons.1 hy with rfl | hy
          · exact hx
          · exact hno y hy
        · rw [lk_push, if_neg hx] at hlk; exact hlk
      · exact .inr (.inr ⟨y, by simp [hy], z, by simp [hz], hyd, hzd, hne⟩)

/-- an operation of the list, in the frame in which the list has it -/
theorem ResL_at {L : List (Nat × PI × Sv)} {fr fr' : List (Nat × Sv)} {x : Nat × PI × Sv} (h : ResL P ρ H L fr fr') (hx : x ∈ L) :
    ∃ L1 L2 frx, L = L1 ++ x :: L2 ∧ ResL P ρ H L1 fr frx ∧ One P ρ H frx x.2.1 x.2.2 := by
  induction L generalizing fr with
  | nil => cases hx
  | cons y r ih =>
    rcases List.mem_cons.1 hx with rfl | hx
    · exact ⟨[], r, fr, rfl, fun _ => rfl, h.1⟩
    · obtain ⟨L1, L2, frx, e1, e2, e3⟩ := ih h.2 hx
      exact ⟨y :: L1, L2, frx, by simp [e1], ⟨h.1, e2⟩, e3⟩
end
end Hf
/- The engine, part 12: a region whose order Go leaves open is sound in whatever order. -/
namespace Hf
open Go
theorem nodupB_spec : ∀ {l : List Nat}, nodupB l = true → l.Nodup
  | [], _ => List.nodup_nil
  | x :: r, h => by
    simp only [nodupB, Bool.and_eq_true, Bool.not_eq_true', List.contains_eq_mem, decide_eq_false_iff_not] at h
    exact List.nodup_cons.2 ⟨h.1, nodupB_spec h.2⟩

section
variable {P : Program} {ρ : Nat → FuncId} {N : Nat} {ops : Array Oper} {B : List Nat}
theorem HRel.congr {σ σ' : Nat → Nat} {w : World} {H : List Blk} (h : HRel ρ σ w H) (hs : ∀ k, k < H.length → σ' k = σ k) : HRel ρ σ' w H where
 at_ := fun k B hB => by
  have hk := (List.getElem?_eq_some_iff.1 hB).1
  rw [hs k hk, cellsB_congr hs (h.clo k B hB)]
  exact h.at_ k B hB
 sep := fun j k B hjk hk hB hro => by
  have hj := (List.getElem?_eq_some_iff.1 hB).1
  rw [hs k hk, hs j hj]
  exact h.sep j k B hjk hk hB hro
 clo := h.clo

theorem Sp.congr {σ₀ σ σ' : Nat → Nat} {H₀ H : List Blk} {w₀ w : World} (h : Sp ρ σ₀ H₀ w₀ σ H w) (hs : ∀ k, k < H.length → σ' k = σ k) : Sp ρ σ₀ H₀ w₀ σ' H w where
 h := h.h.congr hs
 k := h.k
 len := h.len
 same := fun k hk => (hs k (Nat.lt_of_lt_of_le hk h.len)).trans (h.same k hk)
 rof := h.rof
 fresh := fun k h1 h2 => by rw [hs k h2]; exact h.fresh k h1 h2

/-- dst is written by one operation alone -/
theorem dst_inj (h : nodupB ((List.range ops.size).filterMap (dstOf ops)) = true) {i j s : Nat} (hi : dstOf ops i = some s) (hj : dstOf ops j = some s) : i = j := by
  have hn := nodupB_spec h
  have lt : ∀ {i s}, dstOf ops i = some s → i < ops.size := by
    intro i s hi
    unfold dstOf at hi
    obtain ⟨o, ho, -⟩ := Option.bind_eq_some_iff.1 hi
    exact (Array.getElem?_eq_some_iff.1 ho).1
  have key : ∀ (l : List Nat), (l.filterMap (dstOf ops)).Nodup → l.Nodup → i ∈ l → j ∈ l → i = j := by
    intro l
    induction l with
    | nil => intro _ _ h; cases h
    | cons x r ih =>
      intro h1 h2 hi' hj'
      obtain ⟨hx, h2⟩ := List.nodup_cons.1 h2
      have tail : (r.filterMap (dstOf ops)).Nodup := by
        simp only [List.filterMap_cons] at h1
        split at h1
        · exact h1
        · exact (List.nodup_cons.1 h1).2
      rcases List.mem_cons.1 hi' with hix | hir <;> rcases List.mem_cons.1 hj' with hjx | hjr
      · rw [hix, hjx]
      · subst hix
        simp only [List.filterMap_cons, hi] at h1
        exact ((List.nodup_cons.1 h1).1 (List.mem_filterMap.2 ⟨j, hjr, hj⟩)).elim
      · subst hjx
        simp only [List.filterMap_cons, hj] at h1
        exact ((List.nodup_cons.1 h1).1 (List.mem_filterMap.2 ⟨i, hir, hi⟩)).elim
      · exact ih tail h2 hir hjr
  exact key _ hn List.nodup_range (List.mem_range.2 (lt hi)) (List.mem_range.2 (lt hj))

theorem mem_unique {y z : Nat × PI × Sv} : ∀ {l : List (Nat × PI × Sv)}, (l.map (·.1)).Nodup → y ∈ l → z ∈ l → y.1 = z.1 → y = z
  | [], _, h, _, _ => by cases h
  | x :: r, h, hy, hz, e => by
    simp only [List.map_cons, List.nodup_cons] at h
    rcases List.mem_cons.1 hy with hyx | hyr <;> rcases List.mem_cons.1 hz with hzx | hzr
    · rw [hyx, hzx]
    · subst hyx
      exact (h.1 (by rw [e]; exact List.mem_map_of_mem hzr)).elim
    · subst hzx
      exact (h.1 (by rw [← e]; exact List.mem_map_of_mem hyr)).elim
    · exact mem_unique h.2 hyr hzr e

/-- what holds while the first part of the region goes on -/
structure DI (P : Program) (ρ : Nat → FuncId) (σ₀ : Nat → Nat) (H₀ : List Blk) (w₀ : World) (N : Nat) (ops : Array Oper) (fr : List (Nat × Sv)) (H : List Blk) (σ : Nat → Nat)
  (es : List Nat) (L : List (Nat × PI × Sv)) (ns : List NI) (ct : NI → Bk) (base : Nat) (D : Nat → Prop) (a : Act) (w : World) (bs : Nat → Nat) : Prop where
 clo : Closed ops D
 u : ∀ s v, lk fr s = some v → (∀ j, dstOf ops j = some s → j ∉ es → ¬ D j) → a.tmps[s]? = some (renS ρ σ v)
 x : ∀ y ∈ L, D y.1 → ∀ t, y.2.1.d = some t → a.tmps[t]? = some (renS ρ σ y.2.2)
 xl : ∀ y ∈ L, D y.1 → y.2.2.lt H.length = true
 sp : Sp ρ σ₀ H₀ w₀ σ H w
 nn : ∀ q ∈ ns, D q.i → a.tmps[q.d]? = some (.pointer (some ⟨bs q.i, 0, none⟩)) ∧ base ≤ bs q.i ∧ ∃ T, w.heap[bs q.i]? = some (.cells (cellsB ρ σ (ct q)) T (0, 0)) ∨ ((∃ j x m, q.s = some (j, x, m) ∧ ¬ D j) ∧ w.heap[bs q.i]? = some (.cells (cellsB ρ σ q.z.bk) T (0, 0)))
 nd : ∀ q ∈ ns, ∀ q' ∈ ns, D q.i → D q'.i → q.i ≠ q'.i → bs q.i ≠ bs q'.i
 lo : ∀ k, k < H.length → σ k < base
 bw : w₀.heap.size ≤ base
 bs_ : base ≤ w.heap.size
 sz : a.tmps.size = N
 df : a.defers = []

variable {σ₀ : Nat → Nat} {H₀ : List Blk} {w₀ : World} {fr : List (Nat × Sv)} {H : List Blk} {σ : Nat → Nat} {es : List Nat} {L : List (Nat × PI × Sv)} {ns : List NI} {ct : NI → Bk} {base : Nat} {D : Nat → Prop} {a : Act} {w : World} {bs : Nat → Nat}
/-- a slot that an operation may read now -/
theorem DI.read (di : DI P ρ σ₀ H₀ w₀ N ops fr H σ es L ns ct base D a w bs) (hB : okB ops B = true) (hinj : nodupB ((List.range ops.size).filterMap (dstOf ops)) = true)
  (hfr : ∀ s v, lk fr s = some v → v.lt H.length = true)
  {i : Nat} {o : Oper} (ho : ops[i]? = some o) (hun : ¬ D i) (hrd : ∀ n ∈ needs o, D n) {L1 : List (Nat × PI × Sv)} (hL1 : ∀ y ∈ L1, y ∈ L) (hd : ∀ y ∈ L, dstOf ops y.1 = y.2.1.d) (hnod : (L.map (·.1)).Nodup)
  {frx : List (Nat × Sv)} (hr : ResL P ρ H L1 fr frx) {s : Nat} {u : Sv} (hok : readOk ops B (L1.map (·.1) ++ es) i s = true) (hlk : lk frx s = some u) :
  a.tmps[s]? = some (renS ρ σ u) ∧ u.lt H.length = true := by
 have rd : ∀ j, dstOf ops j = some s → j ≠ i ∧ (if (L1.map (·.1) ++ es).contains j then bt B i j = true else bt B j i = true) := by
  intro j hj
  have hjl : j < ops.size := by
   unfold dstOf at hj
   obtain ⟨o, ho, -⟩ := Option.bind_eq_some_iff.1 hj
   exact (Array.getElem?_eq_some_iff.1 ho).1
  have := List.all_eq_true.1 hok j (List.mem_range.2 hjl)
  rw [hj] at this
  simp only [bne_self_eq_false, Bool.false_or, Bool.and_eq_true, bne_iff_ne, ne_eq] at this
  refine ⟨this.1, ?_⟩
  have h2 := this.2
  split at h2 <;> rename_i hc
  ·rw [if_pos hc]; exact h2
  ·rw [if_neg hc]; exact h2
 have uniq : ∀ y ∈ L, ∀ z ∈ L, y.2.1.d = some s → z.2.1.d = some s → y = z := by
  intro y hy z hz hyd hzd
  have e : y.1 = z.1 := dst_inj hinj (s := s) (by rw [hd y hy]; exact hyd) (by rw [hd z hz]; exact hzd)
  exact mem_unique hnod hy hz e
 rcases ResL_lk hr hlk with ⟨y, hy, hyd, hall⟩ | ⟨hno, hlk'⟩ | ⟨y, hy, z, hz, hyd, hzd, hne⟩
 ·have hdy := hd y (hL1 y hy)
  have hc : (L1.map (·.1) ++ es).contains y.1 = true := by
   rw [List.contains_iff_mem]; exact List.mem_append.2 (.inl (List.mem_map_of_mem hy))
  have := rd y.1 (by rw [hdy]; exact hyd)
  rw [if_pos hc] at this
  have hD := di.clo.ready hB ho hrd y.1 this.2
  rw [← hall y hy hyd rfl]
  exact ⟨di.x y (hL1 y hy) hD s hyd, di.xl y (hL1 y hy) hD⟩
 ·refine ⟨di.u s u hlk' ?_, hfr s u hlk'⟩
  intro j hj hje hDj
  have := rd j hj
  by_cases hc : (L1.map (·.1) ++ es).contains j = true
  ·rw [List.contains_iff_mem, List.mem_append, List.mem_map] at hc
   obtain ⟨y, hy, rfl⟩ := hc.resolve_right hje
   exact hno y hy (by rw [← hd y (hL1 y hy)]; exact hj)
  ·rw [if_neg hc] at this
   have hjl : j < ops.size := by
    unfold dstOf at hj
    obtain ⟨o, ho, -⟩ := Option.bind_eq_some_iff.1 hj
    exact (Array.getElem?_eq_some_iff.1 ho).1
   exact hun (di.clo.wait hB j hjl hDj i this.2)
 ·exact (hne (uniq y (hL1 y hy) z (hL1 z hz) hyd hzd)).elim

/-- the small frame of the slots that are read -/
def small (frx : List (Nat × Sv)) : List Nat → List (Nat × Sv)
  | [] => []
  | s :: r => match lk frx s with
    | some v => (s, v) :: small frx r
    | none => small frx r
theorem small_lk {frx : List (Nat × Sv)} : ∀ {l : List Nat} {s : Nat}, lk (small frx l) s = if s ∈ l then lk frx s else none
  | [], s => by simp [small, lk]
  | t :: r, s => by
    simp only [small]
    cases hk : lk frx t with
    | none =>
      simp only
      rw [small_lk]
      by_cases h : s ∈ r
      · simp [h]
      · by_cases hst : s = t
        · subst hst; simp [hk]
        · simp [h, hst]
    | some v =>
      simp only [lk]
      by_cases hst : t = s
      · subst hst; simp [hk]
      · rw [if_neg hst, small_lk]
        simp [Ne.symm hst]

theorem put_get {d : Option Nat} {v : Value} {s : Nat} (h : d ≠ some s) : (a.put d v).tmps[s]? = a.tmps[s]? := by
  cases d with
  | none => rfl
  | some t =>
    have : t ≠ s := fun e => h (by rw [e])
    simp [Act.put, Array.getElem?_setIfInBounds_ne this]
theorem put_get_same {v : Value} {s : Nat} (h : s < a.tmps.size) : (a.put (some s) v).tmps[s]? = some v := by
 simp [Act.put, h]

/-- one operation of the list is done -/
theorem DI.stepX (di : DI P ρ σ₀ H₀ w₀ N ops fr H σ es L ns ct base D a w bs) (hinj : nodupB ((List.range ops.size).filterMap (dstOf ops)) = true)
  {y : Nat × PI × Sv} (hy : y ∈ L) (hdy : dstOf ops y.1 = y.2.1.d) (hnod : (L.map (·.1)).Nodup) {o : Oper} (ho : ops[y.1]? = some o) (hrd : ∀ n ∈ needs o, D n) (hye : y.1 ∉ es) (hN : ∀ t, y.2.1.d = some t → t < N)
  (hdL : ∀ z ∈ L, dstOf ops z.1 = z.2.1.d) (hnd : ∀ q ∈ ns, dstOf ops q.i = some q.d) (hni : ∀ q ∈ ns, q.i ≠ y.1) (hnj : ∀ q ∈ ns, ∀ j x m, q.s = some (j, x, m) → j ≠ y.1)
  {σ' : Nat → Nat} {w' : World} (sp : Sp ρ σ H w σ' H w') (hl : y.2.2.lt H.length = true) :
  DI P ρ σ₀ H₀ w₀ N ops fr H σ es L ns ct base (fun i => D i ∨ i = y.1) (a.put y.2.1.d (renS ρ σ' y.2.2)) w' bs := by
 have hs : ∀ k, k < H.length → σ' k = σ k := sp.same
 have ev' : renS ρ σ' y.2.2 = renS ρ σ y.2.2 := renS_congr hs hl
 have spw : Sp ρ σ₀ H₀ w₀ σ H w' := (di.sp.trans sp).congr fun k hk => (hs k hk).symm
 have oldb : ∀ b, b < w.heap.size → base ≤ b → w'.heap[b]? = w.heap[b]? := by
  intro b hb hbb
  refine sp.k.old b hb fun k B hB _ => ?_
  have hk := (List.getElem?_eq_some_iff.1 hB).1
  have := di.lo k hk
  omega
 refine ⟨?_, ?_, ?_, ?_, spw, ?_, ?_, di.lo, di.bw, Nat.le_trans di.bs_ sp.k.size, by rw [Act.put_size]; exact di.sz, by rw [Act.put_defers']; exact di.df⟩
 ·intro i o' ho' hD n hn
  rcases hD with hD | rfl
  ·exact .inl (di.clo i o' ho' hD n hn)
  ·rw [ho] at ho'; cases ho'
   exact .inl (hrd n hn)
 ·intro s v hlk hno
  have hne : y.2.1.d ≠ some s := fun e => hno y.1 (by rw [hdy]; exact e) hye (.inr rfl)
  rw [put_get hne]
  exact di.u s v hlk fun j hj hje hD => hno j hj hje (.inl hD)
 ·intro z hz hD t ht
  by_cases hzy : z.1 = y.1
  ·have : z = y := mem_unique hnod hz hy hzy
   subst this
   rw [ht, ev']
   exact put_get_same (by rw [di.sz]; exact hN t ht)
  ·have hne : y.2.1.d ≠ some t := fun e => hzy (dst_inj hinj (s := t) (by rw [hdL z hz]; exact ht) (by rw [hdy]; exact e))
   rw [put_get hne]
   exact di.x z hz (hD.resolve_right hzy) t ht
 ·intro z hz hD
  rcases hD with hD | hD
  ·exact di.xl z hz hD
  ·have : z = y := mem_unique hnod hz hy hD
   subst this
   exact hl
 ·intro q hq hD
  obtain ⟨h1, h2, T, h3⟩ := di.nn q hq (hD.resolve_right (hni q hq))
  have hne : y.2.1.d ≠ some q.d := fun e => hni q hq (dst_inj hinj (hnd q hq) (by rw [hdy]; exact e))
  refine ⟨by rw [put_get hne]; exact h1, h2, T, ?_⟩
  have hlt : bs q.i < w.heap.size := by
   rcases h3 with h3 | ⟨-, h3⟩ <;> exact (Array.getElem?_eq_some_iff.1 h3).1
  rw [oldb _ hlt h2]
  rcases h3 with h3 | ⟨⟨j, x, m, e, hj⟩, h3⟩
  ·exact .inl h3
  ·exact .inr ⟨⟨j, x, m, e, fun h => h.elim hj (hnj q hq j x m e)⟩, h3⟩
 ·intro q hq q' hq' hD hD' hne
  exact di.nd q hq q' hq' (hD.resolve_right (hni q hq)) (hD'.resolve_right (hni q' hq')) hne
end
end Hf
/- The engine, part 13: the whole of such a region. -/
namespace Hf
open Go
section
variable {P : Program} {ρ : Nat → FuncId} {N : Nat} {ops : Array Oper} {B : List Nat}
variable {σ₀ : Nat → Nat} {H₀ : List Blk} {w₀ : World} {fr : List (Nat × Sv)} {H : List Blk} {σ : Nat → Nat} {es : List Nat} {L : List (Nat × PI × Sv)} {ns : List NI} {ct : NI → Bk} {base : Nat} {D : Nat → Prop} {a : Act} {w : World} {bs : Nat → Nat}
/-- a block more, of which the state knows nothing -/
theorem Sp_push (h : HRel ρ σ w H) (o : Obj) : Sp ρ σ H w σ H { w with heap := w.heap.push o } where
 h := {
  at_ := fun k B hB => by
   obtain ⟨T, e⟩ := h.at_ k B hB
   have hlt := h.lt (List.getElem?_eq_some_iff.1 hB).1
   refine ⟨T, ?_⟩
   show (w.heap.push _)[σ k]? = _
   rw [Array.getElem?_push, if_neg (by omega)]
   exact e
  sep := h.sep
  clo := h.clo }
 k := ⟨rfl, rfl, rfl, by simp, fun b hb _ => by
  show (w.heap.push _)[b]? = _
  rw [Array.getElem?_push, if_neg (by omega)]⟩
 len := Nat.le_refl _
 same := fun _ _ => rfl
 rof := fun _ _ _ e e' => by rw [e] at e'; cases e'; rfl
 fresh := fun _ h1 h2 => by omega

/-- a block written, of which the state knows nothing -/
theorem Sp_other (h : HRel ρ σ w H) (b : Nat) (hb : ∀ k, k < H.length → σ k ≠ b) (cs : Array Value) : HRel ρ σ (w.setRow b cs) H where
 at_ := fun k B hB => by
  obtain ⟨T, e⟩ := h.at_ k B hB
  refine ⟨T, ?_⟩
  rw [setRow_other _ _ _ _ (hb k (List.getElem?_eq_some_iff.1 hB).1)]
  exact e
 sep := h.sep
 clo := h.clo

theorem DI.stepN (di : DI P ρ σ₀ H₀ w₀ N ops fr H σ es L ns ct base D a w bs) (hB : okB ops B = true) (hinj : nodupB ((List.range ops.size).filterMap (dstOf ops)) = true)
    {q : NI} (hq : q ∈ ns) {o : Oper} (ho : ops[q.i]? = some o) (hun : ¬ D q.i) (hrd : ∀ n ∈ needs o, D n) (hqe : q.i ∉ es) (hN : q.d < N)
    (hdL : ∀ z ∈ L, dstOf ops z.1 = z.2.1.d) (hnd : ∀ q ∈ ns, dstOf ops q.i = some q.d) (hnL : ∀ z ∈ L, z.1 ≠ q.i) (hnj : ∀ q ∈ ns, ∀ q' ∈ ns, ∀ j x m, q'.s = some (j, x, m) → j ≠ q.i)
    (hnq : ∀ q' ∈ ns, q'.i = q.i → q' = q) (hc0 : q.s = none → ct q = q.z.bk) (hwt : ∀ j x m, q.s = some (j, x, m) → bt B j q.i = true ∧ j < ops.size) (T : TypeId) :
    DI P ρ σ₀ H₀ w₀ N ops fr H σ es L ns ct base (fun i => D i ∨ i = q.i) (a.put (some q.d) (.pointer (some ⟨w.heap.size, 0, none⟩))) { w with heap := w.heap.push (.cells (cellsB ρ σ q.z.bk) T) } (setAt bs q.i w.heap.size) := by
  have hdq := hnd q hq
  have oldb : ∀ b, b < w.heap.size → (w.heap.push (.cells (cellsB ρ σ q.z.bk) T))[b]? = w.heap[b]? := fun b hb => by
    rw [Array.getElem?_push, if_neg (by omega)]
  refine ⟨?_, ?_, ?_, ?_, di.sp.trans (Sp_push di.sp.h _), ?_, ?_, di.lo, di.bw, by simp; exact Nat.le_succ_of_le di.bs_, by rw [Act.put_size]; exact di.sz, by rw [Act.put_defers']; exact di.df⟩
  · intro i o' ho' hD n hn
    rcases hD with hD | rfl
    · exact .inl (di.clo i o' ho' hD n hn)
    · rw [ho] at ho'; cases ho'
      exact .inl (hrd n hn)
  · intro s v hlk hno
    have hne : (some q.d) ≠ some s := fun e => hno q.i (by rw [hdq]; exact e) hqe (.inr rfl)
    rw [put_get hne]
    exact di.u s v hlk fun j hj hje hD => hno j hj hje (.inl hD)
  · intro z hz hD t ht
    have hne : (some q.d) ≠ some t := fun e => hnL z hz (dst_inj hinj (s := t) (by rw [hdL z hz]; exact ht) (by rw [hdq]; exact e))
    rw [put_get hne]
    exact di.x z hz (hD.resolve_right (hnL z hz)) t ht
  · intro z hz hD
    exact di.xl z hz (hD.resolve_right (hnL z hz))
  · intro q' hq' hD
    by_cases hqq : q'.i = q.i
    · obtain rfl := hnq q' hq' hqq
      refine ⟨?_, ?_, T, ?_⟩
      · rw [put_get_same (by rw [di.sz]; exact hN), setAt_same]
      · rw [setAt_same]; exact di.bs_
      · rw [setAt_same]
        have e : ({ w with heap := w.heap.push (.cells (cellsB ρ σ q'.z.bk) T) } : World).heap[w.heap.size]? = some (.cells (cellsB ρ σ q'.z.bk) T (0, 0)) := by
          show (w.heap.push _)[w.heap.size]? = _
          simp
        rw [e]
        cases hs : q'.s with
        | none => rw [hc0 hs]; exact .inl rfl
        | some p =>
          obtain ⟨j, x, m⟩ := p
          refine .inr ⟨⟨j, x, m, rfl, ?_⟩, rfl⟩
          rintro (hDj | hji)
          · obtain ⟨h1, h2⟩ := hwt j x m hs
            exact hun (di.clo.wait hB j h2 hDj _ h1)
          · exact hnj q' hq' q' hq' j x m hs hji
    · obtain ⟨h1, h2, T', h3⟩ := di.nn q' hq' (hD.resolve_right hqq)
      have hne : (some q.d) ≠ some q'.d := fun e => hqq (dst_inj hinj (hnd q' hq') (by rw [hdq]; exact e))
      have hsb : setAt bs q.i w.heap.size q'.i = bs q'.i := by unfold setAt; rw [if_neg hqq]
      rw [hsb]
      have hlt : bs q'.i < w.heap.size := by
        rcases h3 with h3 | ⟨-, h3⟩ <;> exact (Array.getElem?_eq_some_iff.1 h3).1
      refine ⟨by rw [put_get hne]; exact h1, h2, T', ?_⟩
      show (w.heap.push _)[bs q'.i]? = _ ∨ _ ∧ (w.heap.push _)[bs q'.i]? = _
      rw [oldb _ hlt]
      rcases h3 with h3 | ⟨⟨j, x, m, e, hj⟩, h3⟩
      · exact .inl h3
      · exact .inr ⟨⟨j, x, m, e, fun h => h.elim hj (hnj q hq q' hq' j x m e)⟩, h3⟩
  · intro q1 hq1 q2 hq2 hD1 hD2 hne
    have lt : ∀ q' ∈ ns, D q'.i → bs q'.i < w.heap.size := by
      intro q' hq' hD
      obtain ⟨-, -, T', h3⟩ := di.nn q' hq' hD
      rcases h3 with h3 | ⟨-, h3⟩ <;> exact (Array.getElem?_eq_some_iff.1 h3).1
    by_cases h1 : q1.i = q.i <;> by_cases h2 : q2.i = q.i
    · exact (hne (h1.trans h2.symm)).elim
    · have := lt q2 hq2 (hD2.resolve_right h2)
      simp only [setAt, h1, if_true, h2, if_false]
      omega
    · have := lt q1 hq1 (hD1.resolve_right h1)
      simp only [setAt, h1, if_false, h2, if_true]
      omega
    · simp only [setAt, h1, if_false, h2]
      exact di.nd q1 hq1 q2 hq2 (hD1.resolve_right h1) (hD2.resolve_right h2) hne

theorem DI.stepS (di : DI P ρ σ₀ H₀ w₀ N ops fr H σ es L ns ct base D a w bs)
  {q : NI} (hq : q ∈ ns) {j : Nat} {x : Ar} {m : Nat} (hqs : q.s = some (j, x, m)) {o : Oper} (ho : ops[j]? = some o) (hrd : ∀ n ∈ needs o, D n) (hDq : D q.i) (hdj : dstOf ops j = none)
  (hnL : ∀ z ∈ L, z.1 ≠ j) (hnj : ∀ q' ∈ ns, q'.i ≠ j) (hnq : ∀ q' ∈ ns, q'.i = q.i → q' = q) (hsj : ∀ q' ∈ ns, ∀ x m, q'.s = some (j, x, m) → q' = q) :
  DI P ρ σ₀ H₀ w₀ N ops fr H σ es L ns ct base (fun i => D i ∨ i = j) a (w.setRow (bs q.i) (cellsB ρ σ (ct q))) bs := by
 obtain ⟨p1, p2, T, p3⟩ := di.nn q hq hDq
 have hb : ∀ k, k < H.length → σ k ≠ bs q.i := fun k hk => by have := di.lo k hk; omega
 refine ⟨?_, ?_, ?_, ?_, ?_, ?_, ?_, di.lo, di.bw, by rw [setRow_size]; exact di.bs_, di.sz, di.df⟩
 ·intro i o' ho' hD n hn
  rcases hD with hD | rfl
  ·exact .inl (di.clo i o' ho' hD n hn)
  ·rw [ho] at ho'; cases ho'
   exact .inl (hrd n hn)
 ·intro s v hlk hno
  exact di.u s v hlk fun j hj hje hD => hno j hj hje (.inl hD)
 ·intro z hz hD t ht
  exact di.x z hz (hD.resolve_right (hnL z hz)) t ht
 ·intro z hz hD
  exact di.xl z hz (hD.resolve_right (hnL z hz))
 ·refine ⟨Sp_other di.sp.h _ hb _, ⟨di.sp.k.os, di.sp.k.tape, di.sp.k.output, by rw [setRow_size]; exact di.sp.k.size, ?_⟩, di.sp.len, di.sp.same, di.sp.rof, di.sp.fresh⟩
  intro b hb' hn
  have := di.bw
  rw [setRow_other _ _ _ _ (by omega)]
  exact di.sp.k.old b hb' hn
 ·intro q' hq' hD
  obtain ⟨h1, h2, T', h3⟩ := di.nn q' hq' (hD.resolve_right (hnj q' hq'))
  refine ⟨h1, h2, ?_⟩
  by_cases hqq : q'.i = q.i
  ·obtain rfl := hnq q' hq' hqq
   refine ⟨T', .inl ?_⟩
   rcases h3 with h3 | ⟨-, h3⟩ <;> exact setRow_heap w _ _ _ T' _ h3
  ·refine ⟨T', ?_⟩
   have hne := di.nd q' hq' q hq (hD.resolve_right (hnj q' hq')) hDq hqq
   rw [setRow_other _ _ _ _ hne]
   rcases h3 with h3 | ⟨⟨j', x', m', e, hj⟩, h3⟩
   ·exact .inl h3
   ·refine .inr ⟨⟨j', x', m', e, fun h => h.elim hj fun hjj => ?_⟩, h3⟩
    subst hjj
    exact hqq (by rw [hsj q' hq' x' m' e])
 ·intro q1 hq1 q2 hq2 hD1 hD2 hne
  exact di.nd q1 hq1 q2 hq2 (hD1.resolve_right (hnj q1 hq1)) (hD2.resolve_right (hnj q2 hq2)) hne

/-! ### the end of the first part -/
/-- the blocks of the new variables, in order -/
def bsl (σ : Nat → Nat) (m : Nat) (bs : Nat → Nat) (ns : List NI) : Nat → Nat := fun k => if k < m then σ k else match ns[k - m]? with
  | some q => bs q.i
  | none => 0

def nfr (m : Nat) : List NI → List (Nat × Sv) → List (Nat × Sv)
  | [], fr => fr
  | q :: r, fr => nfr (m + 1) r ((q.d, .one (.pt m 0)) :: fr)

theorem vN_spec {fr0 : List (Nat × Sv)} {Q : St → Prop} : ∀ {ns : List NI} {fr : List (Nat × Sv)} {H : List Blk}, vN fr0 ns fr H Q →
    ∃ ct : NI → Bk, (∀ q ∈ ns, ∀ K : Bk → Prop, K (ct q) → vcont fr0 q K) ∧ Q ⟨nfr H.length ns fr, H ++ ns.map (fun q => ⟨false, ct q⟩)⟩
  | [], fr, H, h => ⟨fun _ => .rw [], by simp, by simpa [nfr] using (show Q ⟨fr, H⟩ from h)⟩
  | q :: r, fr, H, h => by
    obtain ⟨m, rfl, h⟩ := h
    have wit : ∃ c, (∀ K : Bk → Prop, K c → vcont fr0 q K) ∧ vN fr0 r ((q.d, .one (.pt H.length 0)) :: fr) (H ++ [⟨false, c⟩]) Q := by
      unfold vcont at h ⊢
      split at h
      · exact ⟨_, fun K hK => hK, h⟩
      · split at h
        · split at h
          · exact ⟨_, fun K hK => ⟨h.1, hK⟩, h.2⟩
          · exact h.elim
        · split at h
          · exact h.elim
          · exact ⟨_, fun K hK => ⟨h.1, hK⟩, h.2⟩
        · exact h.elim
    obtain ⟨c, h1, h2⟩ := wit
    obtain ⟨ct, h3, h4⟩ := vN_spec h2
    classical
    refine ⟨fun q' => if q' ∈ r then ct q' else c, ?_, ?_⟩
    · intro q' hq' K hK
      by_cases hr : q' ∈ r
      · simp only [hr, if_true] at hK; exact h3 q' hr K hK
      · simp only [hr, if_false] at hK
        rcases List.mem_cons.1 hq' with rfl | hq'
        · exact h1 K hK
        · exact (hr hq').elim
    · by_cases hr : q ∈ r
      · -- the same entry twice: its content is told twice, and alike
        have e : c = ct q := by
          have a1 := h3 q hr (fun x => x = ct q) rfl
          have a2 := h1 (fun x => x = c) rfl
          unfold vcont at a1 a2
          split at a1
          · rename_i hs; simp only [hs] at a2; exact a2.symm.trans a1
          · rename_i hs; simp only [hs] at a2
            split at a1
            · rename_i he; simp only [he] at a2
              split at a1
              · rename_i hz; simp only [hz] at a2; exact a2.2.symm.trans a1.2
              · exact a1.elim
            · rename_i he; simp only [he] at a2
              split at a1
              · exact a1.elim
              · rename_i hz
                split at a2
                · rename_i hz'; exact (hz _ _ hz').elim
                · exact a2.2.symm.trans a1.2
            · exact a1.elim
        have : (q :: r).map (fun q' => (⟨false, if q' ∈ r then ct q' else c⟩ : Blk)) = (⟨false, c⟩ : Blk) :: r.map (fun q => ⟨false, ct q⟩) := by
          rw [List.map_cons]
          congr 1
          · simp [hr, e]
          · exact List.map_congr_left fun q' hq' => by simp [hq']
        rw [this]
        simpa [nfr, List.append_assoc] using h4
      · have : (q :: r).map (fun q' => (⟨false, if q' ∈ r then ct q' else c⟩ : Blk)) = (⟨false, c⟩ : Blk) :: r.map (fun q => ⟨false, ct q⟩) := by
          rw [List.map_cons]
          congr 1
          · simp [hr]
          · exact List.map_congr_left fun q' hq' => by simp [hq']
        rw [this]
        simpa [nfr, List.append_assoc] using h4

theorem nfr_lk : ∀ {ns : List NI} {m : Nat} {fr : List (Nat × Sv)} {s : Nat} {v : Sv}, lk (nfr m ns fr) s = some v → (∃ k q, ns[k]? = some q ∧ q.d = s ∧ v = .one (.pt (m + k) 0)) ∨ ((∀ q ∈ ns, q.d ≠ s) ∧ lk fr s = some v)
  | [], m, fr, s, v, h => .inr ⟨by simp, h⟩
  | q :: r, m, fr, s, v, h => by
    simp only [nfr] at h
    rcases nfr_lk h with ⟨k, q', e1, e2, e3⟩ | ⟨hno, h⟩
    · exact .inl ⟨k + 1, q', by simpa using e1, e2, by rw [e3]; congr 2; omega⟩
    · simp only [lk] at h
      split at h
      · rename_i e
        cases h
        exact .inl ⟨0, q, rfl, e, rfl⟩
      · rename_i e
        refine .inr ⟨?_, h⟩
        intro q' hq'
        rcases List.mem_cons.1 hq' with rfl | hq'
        · exact e
        · exact hno q' hq'

theorem nodup_ix {l : List NI} {k k' : Nat} {q q' : NI} (h : (l.map (·.i)).Nodup) (h1 : l[k]? = some q) (h2 : l[k']? = some q') (e : q.i = q'.i) : k = k' := by
  induction l generalizing k k' with
  | nil => simp at h1
  | cons x r ih =>
    simp only [List.map_cons, List.nodup_cons] at h
    cases k with
    | zero =>
      cases k' with
      | zero => rfl
      | succ k' =>
        simp only [List.getElem?_cons_zero, Option.some.injEq] at h1
        rw [List.getElem?_cons_succ] at h2
        subst h1
        exact (h.1 (by rw [e]; exact List.mem_map_of_mem (List.mem_of_getElem? h2))).elim
    | succ k =>
      rw [List.getElem?_cons_succ] at h1
      cases k' with
      | zero =>
        simp only [List.getElem?_cons_zero, Option.some.injEq] at h2
        subst h2
        exact (h.1 (by rw [← e]; exact List.mem_map_of_mem (List.mem_of_getElem? h1))).elim
      | succ k' =>
        rw [List.getElem?_cons_succ] at h2
        rw [ih h.2 h1 h2]

theorem DI.finish (di : DI P ρ σ₀ H₀ w₀ N ops fr H σ es L ns ct base D a w bs) {frX : List (Nat × Sv)} (hr : ResL P ρ H L fr frX) (hfr : ∀ s v, lk fr s = some v → v.lt H.length = true)
  (hinj : nodupB ((List.range ops.size).filterMap (dstOf ops)) = true) (hdL : ∀ z ∈ L, dstOf ops z.1 = z.2.1.d) (hnod : (L.map (·.1)).Nodup) (hnd : ∀ q ∈ ns, dstOf ops q.i = some q.d)
  (hall : ∀ z ∈ L, D z.1) (halln : ∀ q ∈ ns, D q.i ∧ ∀ j x m, q.s = some (j, x, m) → D j) (hfs : ∀ j s, D j → j ∉ es → dstOf ops j = some s → (∃ z ∈ L, z.1 = j) ∨ ∃ q ∈ ns, q.i = j)
  (hctl : ∀ q ∈ ns, (ct q).lt H.length = true) (hctz : ∀ q ∈ ns, frz (ct q) = (0, 0)) (hnn : (ns.map (·.i)).Nodup) :
  Inv ρ σ₀ H₀ w₀ N (bsl σ H.length bs ns) a w ⟨nfr H.length ns frX, H ++ ns.map (fun q => ⟨false, ct q⟩)⟩ := by
 have hold : ∀ k, k < H.length → bsl σ H.length bs ns k = σ k := fun k hk => by simp only [bsl, hk, if_true]
 have hnew : ∀ (k : Nat) (q : NI), ns[k]? = some q → bsl σ H.length bs ns (H.length + k) = bs q.i := fun k q hq => by
  simp only [bsl]
  rw [if_neg (by omega), Nat.add_sub_cancel_left, hq]
 have hblk : ∀ (k : Nat) (q : NI), ns[k]? = some q → ∃ T, w.heap[bs q.i]? = some (.cells (cellsB ρ σ (ct q)) T (0, 0)) ∧ base ≤ bs q.i := by
  intro k q hq
  have hm := List.mem_of_getElem? hq
  obtain ⟨h1, h2, T, h3⟩ := di.nn q hm (halln q hm).1
  refine ⟨T, ?_, h2⟩
  rcases h3 with h3 | ⟨⟨j, x, m, e, hj⟩, -⟩
  ·exact h3
  ·exact (hj ((halln q hm).2 j x m e)).elim
 have hneq : ∀ (k k' : Nat) (q q' : NI), ns[k]? = some q → ns[k']? = some q' → k ≠ k' → q.i ≠ q'.i := by
  intro k k' q q' h1 h2 hne e
  exact hne (nodup_ix hnn h1 h2 e)
 refine ⟨⟨?_, ?_⟩, ⟨⟨?_, ?_, ?_⟩, di.sp.k, by simp; exact Nat.le_trans di.sp.len (Nat.le_add_right _ _), ?_, ?_, ?_⟩, di.sz, di.df⟩
 ·intro s v hv
  simp only at hv
  rcases nfr_lk hv with ⟨k, q, e1, e2, rfl⟩ | ⟨hno, hv⟩
  ·have hm := List.mem_of_getElem? e1
   obtain ⟨h1, -⟩ := di.nn q hm (halln q hm).1
   rw [← e2, h1]
   simp only [renS, ren, hnew k q e1]
  ·have hclo : v.lt H.length = true ∧ a.tmps[s]? = some (renS ρ σ v) := by
    rcases ResL_lk hr hv with ⟨y, hy, hyd, hal⟩ | ⟨hn, hlk⟩ | ⟨y, hy, z, hz, hyd, hzd, hne⟩
    ·rw [← hal y hy hyd rfl]
     exact ⟨di.xl y hy (hall y hy), di.x y hy (hall y hy) s hyd⟩
    ·refine ⟨hfr s v hlk, di.u s v hlk ?_⟩
     intro j hj hje hD
     rcases hfs j s hD hje hj with ⟨z, hz, rfl⟩ | ⟨q, hq, rfl⟩
     ·exact hn z hz (by rw [← hdL z hz]; exact hj)
     ·rw [hnd q hq] at hj
      exact hno q hq (by cases hj; rfl)
    ·exact (hne (mem_unique hnod hy hz (dst_inj hinj (s := s) (by rw [hdL y hy]; exact hyd) (by rw [hdL z hz]; exact hzd)))).elim
   rw [renS_congr hold hclo.1]
   exact hclo.2
 ·intro s v hv
  simp only at hv
  rcases nfr_lk hv with ⟨k, q, e1, e2, rfl⟩ | ⟨hno, hv⟩
  ·have := (List.getElem?_eq_some_iff.1 e1).1
   simp [Sv.lt, At.lt]; omega
  ·have hclo : v.lt H.length = true := by
    rcases ResL_lk hr hv with ⟨y, hy, hyd, hal⟩ | ⟨hn, hlk⟩ | ⟨y, hy, z, hz, hyd, hzd, hne⟩
    ·rw [← hal y hy hyd rfl]
     exact di.xl y hy (hall y hy)
    ·exact hfr s v hlk
    ·exact (hne (mem_unique hnod hy hz (dst_inj hinj (s := s) (by rw [hdL y hy]; exact hyd) (by rw [hdL z hz]; exact hzd)))).elim
   exact Sv.lt_mono (by simp) hclo
 ·intro k Bx hB
  simp only at hB
  by_cases hk : k < H.length
  ·rw [List.getElem?_append_left hk] at hB
   obtain ⟨T, e⟩ := di.sp.h.at_ k Bx hB
   exact ⟨T, by rw [hold k hk, cellsB_congr hold (di.sp.h.clo k Bx hB)]; exact e⟩
  ·rw [List.getElem?_append_right (by omega)] at hB
   simp only [List.getElem?_map, Option.map_eq_some_iff] at hB
   obtain ⟨q, h1, rfl⟩ := hB
   obtain ⟨T, e, -⟩ := hblk _ q h1
   have hk' : k = H.length + (k - H.length) := by omega
   refine ⟨T, ?_⟩
   rw [hk', hnew _ q h1, cellsB_congr hold (hctl q (List.mem_of_getElem? h1)), hctz q (List.mem_of_getElem? h1)]
   exact e
 ·intro j k Bx hjk hk hB hro
  simp only [List.length_append, List.length_map] at hk
  simp only at hB
  have hj := (List.getElem?_eq_some_iff.1 hB).1
  simp only [List.length_append, List.length_map] at hj
  by_cases hk1 : k < H.length
  ·by_cases hj1 : j < H.length
   ·rw [List.getElem?_append_left hj1] at hB
    rw [hold k hk1, hold j hj1]
    exact di.sp.h.sep j k Bx hjk hk1 hB hro
   ·obtain ⟨q, hq⟩ : ∃ q, ns[j - H.length]? = some q := ⟨_, List.getElem?_eq_getElem (by omega)⟩
    obtain ⟨T, -, h2⟩ := hblk _ q hq
    have e := hnew _ q hq
    rw [show H.length + (j - H.length) = j by omega] at e
    rw [e, hold k hk1]
    have := di.lo k hk1
    omega
  ·obtain ⟨q, hq⟩ : ∃ q, ns[k - H.length]? = some q := ⟨_, List.getElem?_eq_getElem (by omega)⟩
   obtain ⟨T, -, h2⟩ := hblk _ q hq
   have e := hnew _ q hq
   rw [show H.length + (k - H.length) = k by omega] at e
   rw [e]
   by_cases hj1 : j < H.length
   ·rw [hold j hj1]
    have := di.lo j hj1
    omega
   ·obtain ⟨q', hq'⟩ : ∃ q, ns[j - H.length]? = some q := ⟨_, List.getElem?_eq_getElem (by omega)⟩
    have e' := hnew _ q' hq'
    rw [show H.length + (j - H.length) = j by omega] at e'
    rw [e']
    have hne := hneq _ _ q' q hq' hq (by omega)
    have hm := List.mem_of_getElem? hq
    have hm' := List.mem_of_getElem? hq'
    exact di.nd q' hm' q hm (halln q' hm').1 (halln q hm).1 hne
 ·intro k Bx hB
  simp only at hB
  by_cases hk : k < H.length
  ·rw [List.getElem?_append_left hk] at hB
   exact Bk.lt_mono (by simp) (di.sp.h.clo k Bx hB)
  ·rw [List.getElem?_append_right (by omega)] at hB
   simp only [List.getElem?_map, Option.map_eq_some_iff] at hB
   obtain ⟨q, h1, rfl⟩ := hB
   exact Bk.lt_mono (by simp) (hctl q (List.mem_of_getElem? h1))
 ·intro k hk
  rw [hold k (Nat.lt_of_lt_of_le hk di.sp.len)]
  exact di.sp.same k hk
 ·intro k Bx Bx' e e'
  simp only at e'
  have hk := Nat.lt_of_lt_of_le (List.getElem?_eq_some_iff.1 e).1 di.sp.len
  rw [List.getElem?_append_left hk] at e'
  exact di.sp.rof k Bx Bx' e e'
 ·intro k h1 h2
  simp only [List.length_append, List.length_map] at h2
  by_cases hk : k < H.length
  ·rw [hold k hk]; exact di.sp.fresh k h1 hk
  ·obtain ⟨q, hq⟩ : ∃ q, ns[k - H.length]? = some q := ⟨_, List.getElem?_eq_getElem (by omega)⟩
   obtain ⟨T, -, h2⟩ := hblk _ q hq
   have e := hnew _ q hq
   rw [show H.length + (k - H.length) = k by omega] at e
   rw [e]
   have := di.bw
   omega
end
end Hf
/- The engine, part 14: the theorem on such a region. -/
namespace Hf
open Go
section
variable {P : Program} {ρ : Nat → FuncId} {N : Nat} {ops : Array Oper} {B : List Nat}
variable {σ₀ : Nat → Nat} {H₀ : List Blk} {w₀ : World}
def und (ops : Array Oper) (l : Array Bool) : Nat := ((List.range ops.size).filter fun i => !l.getD i false).length
def Dn (l : Array Bool) : Nat → Prop := fun i => l.getD i false = true

theorem Dn_set {l : Array Bool} {i : Nat} (hi : i < l.size) : Dn (l.setIfInBounds i true) = fun k => Dn l k ∨ k = i := by
 funext k
 apply propext
 unfold Dn
 by_cases h : i = k
 ·subst h; simp [hi]
 ·rw [getD_set_ne false h]
  constructor
  ·exact .inl
  ·rintro (h' | h')
   ·exact h'
   ·exact (h h'.symm).elim

theorem und_set {l : Array Bool} {i : Nat} (hi : i < ops.size) (hl : l.size = ops.size) (hu : ¬ Dn l i) : und ops (l.setIfInBounds i true) < und ops l := by
  unfold und
  have hsub : ∀ x ∈ (List.range ops.size).filter (fun k => !(l.setIfInBounds i true).getD k false), x ∈ ((List.range ops.size).filter fun k => !l.getD k false) := by
    intro x hx
    rw [List.mem_filter] at hx ⊢
    refine ⟨hx.1, ?_⟩
    have h2 : ¬ Dn (l.setIfInBounds i true) x := by unfold Dn; simpa using hx.2
    rw [Dn_set (by omega)] at h2
    have : ¬ Dn l x := fun h => h2 (.inl h)
    simpa [Dn] using this
  have hlt : ((List.range ops.size).filter (fun k => !(l.setIfInBounds i true).getD k false)) = ((List.range ops.size).filter fun k => !l.getD k false).filter (fun k => decide (k ≠ i)) := by
    rw [List.filter_filter]
    apply List.filter_congr
    intro x hx
    by_cases h : x = i
    · subst h
      have : Dn (l.setIfInBounds x true) x := by rw [Dn_set (by omega)]; exact .inr rfl
      unfold Dn at this
      simp only [this]; simp
    · rw [getD_set_ne false (Ne.symm h)]; simp [h]
  rw [hlt]
  have hmem : i ∈ (List.range ops.size).filter (fun k => !l.getD k false) := by
    rw [List.mem_filter, List.mem_range]
    exact ⟨hi, by simpa [Dn] using hu⟩
  have : ∀ (m : List Nat), i ∈ m → (m.filter (fun k => decide (k ≠ i))).length < m.length := by
    intro m
    induction m with
    | nil => intro h; cases h
    | cons x r ih =>
      intro h
      by_cases hx : x = i
      · subst hx
        have := List.length_filter_le (fun k => decide (k ≠ x)) r
        simp only [List.filter_cons, ne_eq, not_true_eq_false, decide_false, Bool.false_eq_true, if_false, List.length_cons]
        simp only [ne_eq] at this
        omega
      · have h' : i ∈ r := by
          rcases List.mem_cons.1 h with e | h
          · exact (hx e.symm).elim
          · exact h
        have := ih h'
        simp only [List.filter_cons, ne_eq, hx, not_false_eq_true, decide_true, if_true, List.length_cons]
        simp only [ne_eq] at this
        omega
  exact this _ hmem

theorem und_pos {l : Array Bool} {i : Nat} (hi : i < ops.size) (hu : ¬ Dn l i) : 0 < und ops l := by
 unfold und
 apply List.length_pos_of_mem (a := i)
 rw [List.mem_filter, List.mem_range]
 exact ⟨hi, by simpa [Dn] using hu⟩

theorem ready_ex (hB : okB ops B = true) {l : Array Bool} (hl : l.size = ops.size) {i : Nat} (hi : i < ops.size) (hu : ¬ Dn l i) : Region.ready .any ops l ≠ [] := by
 induction i using Nat.strongRecOn with
 | _ i ih =>
  by_cases h : ∀ n ∈ needs ops[i], Dn l n
  ·have : i ∈ Region.ready .any ops l := by
    rw [mem_ready]
    refine ⟨?_, ops[i], Array.getElem?_eq_getElem hi, ?_⟩
    ·unfold Dn at hu
     have hil : i < l.size := by omega
     simp only [Array.getD, hil, dif_pos] at hu ⊢
     simpa using hu
    ·intro e he hb
     refine h e.on ?_
     unfold needs
     rw [List.mem_map]
     exact ⟨e, List.mem_filter.2 ⟨Array.mem_toList_iff.2 he, hb⟩, rfl⟩
   intro e
   rw [e] at this
   cases this
  ·simp only [Classical.not_forall] at h
   obtain ⟨n, hn, hun⟩ := h
   obtain ⟨h1, -⟩ := okB_spec hB (Array.getElem?_eq_getElem hi)
   have := h1 n hn
   exact ih n this (by omega) hun

theorem ready_spec {l : Array Bool} {i : Nat} (h : i ∈ Region.ready .any ops l) : ¬ Dn l i ∧ i < l.size ∧ ∃ o, ops[i]? = some o ∧ ∀ n ∈ needs o, Dn l n := by
 rw [mem_ready] at h
 obtain ⟨h1, o, ho, h2⟩ := h
 have hil : i < l.size := by
  rcases Nat.lt_or_ge i l.size with h | h
  ·exact h
  ·simp [Array.getElem?_eq_none h] at h1
 refine ⟨?_, hil, o, ho, ?_⟩
 ·unfold Dn
  have e : ∀ b, l.getD i b = l[i] := fun b => by simp [Array.getD_eq_getD_getElem?, hil]
  rw [e] at h1 ⊢
  simp [h1]
 ·intro n hn
  unfold needs at hn
  rw [List.mem_map] at hn
  obtain ⟨e, he, rfl⟩ := hn
  rw [List.mem_filter] at he
  exact h2 e (Array.mem_toList_iff.1 he.1) he.2

/-! ### reading the check -/
theorem chkF_at : ∀ {fs : List (Nat × PI)} {bf : List Nat} {p : Nat × PI}, chkF P ρ N ops B bf fs = true → p ∈ fs → (∃ o, ops[p.1]? = some o ∧ chkI P ρ N ops o p.2 = true) ∧ ∀ j ∈ bf, bt B p.1 j = true
  | (i, q) :: r, bf, p, h, hp => by
    simp only [chkF, Bool.and_eq_true, List.all_eq_true] at h
    rcases List.mem_cons.1 hp with rfl | hp
    · refine ⟨?_, h.1.2⟩
      have h1 := h.1.1
      split at h1
      · rename_i o ho; exact ⟨o, ho, h1⟩
      · cases h1
    · obtain ⟨h1, h2⟩ := chkF_at h.2 hp
      exact ⟨h1, fun j hj => h2 j (by simp [hj])⟩
  | [], _, _, _, hp => by cases hp

theorem readOk_congr {bf bf' : List Nat} {x s : Nat} (h : ∀ j, bf.contains j = bf'.contains j) : readOk ops B bf x s = readOk ops B bf' x s := by
 unfold readOk
 congr 1
 funext j
 rw [h]

theorem chkX_at : ∀ {X1 : List (Nat × PI)} {bf : List Nat} {p : Nat × PI} {X2 : List (Nat × PI)}, chkX P ρ N ops B bf (X1 ++ p :: X2) = true →
    (∃ o, ops[p.1]? = some o ∧ chkI P ρ N ops o p.2 = true) ∧ ∀ s ∈ p.2.op.sl ++ guardSl p.2.g, readOk ops B (bf ++ X1.map (·.1)) p.1 s = true
  | [], bf, (i, q), X2, h => by
    simp only [List.nil_append, chkX, Bool.and_eq_true, List.all_eq_true] at h
    refine ⟨?_, by simpa using h.1.2⟩
    have h1 := h.1.1
    split at h1
    · rename_i o ho; exact ⟨o, ho, h1⟩
    · cases h1
  | (k, q) :: X1, bf, p, X2, h => by
    simp only [List.cons_append, chkX, Bool.and_eq_true] at h
    obtain ⟨h1, h2⟩ := chkX_at h.2
    refine ⟨h1, fun s hs => ?_⟩
    rw [← h2 s hs]
    apply readOk_congr
    intro j
    rw [Bool.eq_iff_iff]
    simp only [List.contains_iff_mem, List.mem_append, List.map_cons, List.mem_cons]
    constructor
    · rintro (h | h | h)
      · exact .inl (.inr h)
      · exact .inl (.inl h)
      · exact .inr h
    · rintro ((h | h) | h)
      · exact .inr (.inl h)
      · exact .inl h
      · exact .inr (.inr h)

/-! ### the second part: in order -/
theorem wpOp_of {i : Nat} {o : Oper} {K : Act → World → Prop} {Q : Exit → Act → World → Prop} {a : Act} {w : World} (ho : ops[i]? = some o)
  (h : if Region.wanted o (yielded ops a.tmps) = true then o.wp P a w K Q else K (a.put o.dst undef) w) : wpOp P ops Q i K a w := by
 unfold wpOp
 simp only [ho]
 split at h <;> rename_i hw
 ·rw [if_pos hw]; exact .inl h
 ·rw [if_neg hw]; exact h

/-- one checked operation, with its guard, from a state -/
theorem one_step {o : Oper} {p : PI} {σ : Nat → Nat} {w : World} {a : Act} {st : St} {R : St → Prop} {K : Act → World → Prop} {Q : Exit → Act → World → Prop} (hfn : ∀ f, fnOk P (ρ f) = true)
  (hc : chkI P ρ N ops o p = true) (hi : Inv ρ σ₀ H₀ w₀ N σ a w st) (hv : vreg P ρ [p] st R) (hn : ∀ σ' a' w' st', R st' → Inv ρ σ₀ H₀ w₀ N σ' a' w' st' → K a' w') :
  if Region.wanted o (yielded ops a.tmps) = true then o.wp P a w K Q else K (a.put o.dst undef) w := by
 simp only [chkI, Bool.and_eq_true] at hc
 obtain ⟨⟨h1, h2⟩, h3⟩ := hc
 obtain ⟨hd, hdN⟩ := chkDst_spec h1
 simp only [vreg_c, vreg_n] at hv
 unfold chkGuard at h2
 split at h2
 ·rename_i g1 g2
  rw [if_pos (by simp [Region.wanted, g1])]
  rw [g2] at hv
  refine op_soundR hfn h3 hi.f hi.s.h hv ?_
  intro v H' σ' w' hK sp hl
  rw [hd]
  exact hn _ _ _ _ hK (hi.step hi.f sp hl (fun t ht => hdN t (by rw [hd]; exact ht)))
 ·rename_i j b s b' g1 g2
  simp only [Bool.and_eq_true, beq_iff_eq] at h2
  obtain ⟨rfl, h2⟩ := h2
  rw [g2] at hv
  simp only at hv
  split at hv
  ·rename_i g hg
   replace hv := brB_elim hv
   unfold gdo at hv
   have ht := hi.f.val s _ hg
   have hy : yielded ops a.tmps j = some g := by
    unfold yielded
    rw [h2]
    simp [ht, renS, ren]
   have hfr : FRel ρ σ a.tmps ((s, .one (.b g)) :: st.fr) st.hp.length := by
    refine ⟨?_, ?_⟩
    ·intro s' u hu
     rw [lk_dup hg] at hu
     exact hi.f.val s' u hu
    ·intro s' u hu
     rw [lk_dup hg] at hu
     exact hi.f.clo s' u hu
   split at hv
   ·rename_i hgb
    simp only [beq_iff_eq] at hgb; subst hgb
    rw [if_pos (by simp [Region.wanted, g1, hy])]
    refine op_soundR hfn h3 hfr hi.s.h hv ?_
    intro v H' σ' w' hK sp hl
    rw [hd]
    exact hn _ _ _ _ hK (hi.step hfr sp hl (fun t ht => hdN t (by rw [hd]; exact ht)))
   ·rename_i hgb
    have hgb' : g ≠ b := by simpa using hgb
    rw [if_neg (by simp [Region.wanted, g1, hy, hgb'])]
    rw [hd]
    exact hn _ _ _ _ hv (hi.step (v := .tup []) hfr (Sp.refl hi.s.h) rfl (fun t ht => hdN t (by rw [hd]; exact ht)))
  ·rename_i l hg
   have ht := hi.f.val s _ hg
   have hy : yielded ops a.tmps j = none := by
    unfold yielded
    rw [h2]
    simp [ht, renS]
   rw [if_neg (by simp [Region.wanted, g1, hy])]
   rw [hd]
   exact hn _ _ _ _ hv (hi.step (v := .tup []) hi.f (Sp.refl hi.s.h) rfl (fun t ht => hdN t (by rw [hd]; exact ht)))
  ·exact hv.elim
 ·cases h2

theorem vreg_cons {p : PI} {r : List PI} {st : St} {Q : St → Prop} (h : vreg P ρ (p :: r) st Q) : vreg P ρ [p] st fun st' => vreg P ρ r st' Q := by
 simp only [vreg_c, vreg_n] at h ⊢
 exact h

theorem phase2 {Q : Exit → Act → World → Prop} {Qp : St → Prop} (hfn : ∀ f, fnOk P (ρ f) = true) (hB : okB ops B = true) (hq : ∀ st' σ' a' w', Qp st' → Inv ρ σ₀ H₀ w₀ N σ' a' w' st' → Q .normal a' w') :
    ∀ (fs : List (Nat × PI)) (bf : List Nat) (fuel : Nat) (l : Array Bool) (a : Act) (w : World) (σ : Nat → Nat) (st : St), chkF P ρ N ops B bf fs = true → l.size = ops.size → Closed ops (Dn l) →
      (∀ k, k < ops.size → Dn l k ∨ k ∈ fs.map (·.1)) → (∀ k ∈ fs.map (·.1), ¬ Dn l k) → (fs.map (·.1)).Nodup → und ops l ≤ fuel → Inv ρ σ₀ H₀ w₀ N σ a w st → vreg P ρ (fs.map (·.2)) st Qp → wpAny P .any ops Q fuel l a w
  | [], bf, fuel, l, a, w, σ, st, _, _, _, hall, _, _, _, hi, hv => by
    have hr : Region.ready .any ops l = [] := by
      apply List.eq_nil_iff_forall_not_mem.2
      intro i hi
      obtain ⟨h1, h2, o, ho, -⟩ := ready_spec hi
      have := (Array.getElem?_eq_some_iff.1 ho).1
      exact h1 ((hall i this).resolve_right (by simp))
    exact wpAny_done hr (hq st σ a w (by rw [List.map_nil, vreg_n] at hv; exact hv) hi) fuel
  | (i, p) :: r, bf, fuel, l, a, w, σ, st, hc, hl, hclo, hall, hun, hnd, hf, hi, hv => by
    have hu := hun i (by simp)
    obtain ⟨⟨oi, hoi, hci⟩, -⟩ := chkF_at hc (p := (i, p)) (by simp)
    have hilt : i < ops.size := (Array.getElem?_eq_some_iff.1 hoi).1
    have hpos := und_pos hilt hu
    obtain ⟨fuel, rfl⟩ : ∃ f', fuel = f' + 1 := ⟨fuel - 1, by omega⟩
    refine ⟨fun h => (ready_ex hB hl hilt hu h).elim, fun k hk => ?_⟩
    obtain ⟨h1, h2, o, ho, h3⟩ := ready_spec hk
    have hklt : k < ops.size := (Array.getElem?_eq_some_iff.1 ho).1
    simp only [chkF, Bool.and_eq_true] at hc
    have hki : k = i := by
      have hm := (hall k hklt).resolve_left h1
      simp only [List.map_cons, List.mem_cons] at hm
      rcases hm with e | hm
      · exact e
      · exfalso
        rw [List.mem_map] at hm
        obtain ⟨q, hq, rfl⟩ := hm
        obtain ⟨-, h5⟩ := chkF_at hc.2 hq
        exact hu (hclo.ready hB ho h3 i (h5 i (by simp)))
    subst hki
    rw [hoi] at ho; cases ho
    simp only [List.map_cons, List.nodup_cons] at hnd
    refine wpOp_of hoi (one_step hfn hci hi (vreg_cons hv) ?_)
    intro σ' a' w' st' hR hi'
    have hset := Dn_set h2
    refine phase2 hfn hB hq r (k :: bf) fuel (l.setIfInBounds k true) a' w' σ' st' hc.2 (by simpa using hl) ?_ ?_ ?_ hnd.2 ?_ hi' hR
    · rw [hset]
      intro x ox hox hx n hn
      rcases hx with hx | rfl
      · exact .inl (hclo x ox hox hx n hn)
      · rw [hoi] at hox; cases hox
        exact .inl (h3 n hn)
    · rw [hset]
      intro x hx
      rcases hall x hx with h | h
      · exact .inl (.inl h)
      · simp only [List.map_cons, List.mem_cons] at h
        rcases h with h | h
        · exact .inl (.inr h)
        · exact .inr h
    · rw [hset]
      intro x hx
      rintro (h | h)
      · exact hun x (by simp only [List.map_cons, List.mem_cons]; exact .inr hx) h
      · subst h; exact hnd.1 hx
    · have := und_set hklt hl h1
      omega

/-! ### the theorem -/
theorem chkE_at : ∀ {es : List (Nat × PI)} {bf : List Nat} {p : Nat × PI}, chkE P ρ N ops B bf es = true → p ∈ es → ∃ o, ops[p.1]? = some o ∧ chkI P ρ N ops o p.2 = true
  | (i, q) :: r, bf, p, h, hp => by
    simp only [chkE, Bool.and_eq_true, List.all_eq_true] at h
    rcases List.mem_cons.1 hp with rfl | hp
    · have h1 := h.1.1
      split at h1
      · rename_i o ho; exact ⟨o, ho, h1⟩
      · cases h1
    · exact chkE_at h.2 hp
  | [], _, _, _, hp => by cases hp

/-- the first operations, of which each is waited for by all others -/
theorem phase0 {Q : Exit → Act → World → Prop} {Qp : St → Prop} (hfn : ∀ f, fnOk P (ρ f) = true) (hB : okB ops B = true) {all : List Nat}
    (hq : ∀ st' σ' a' w' l' fuel', Qp st' → Inv ρ σ₀ H₀ w₀ N σ' a' w' st' → l'.size = ops.size → Closed ops (Dn l') → (∀ k, Dn l' k ↔ k ∈ all) → und ops l' ≤ fuel' → wpAny P .any ops Q fuel' l' a' w') :
    ∀ (es : List (Nat × PI)) (bf : List Nat) (fuel : Nat) (l : Array Bool) (a : Act) (w : World) (σ : Nat → Nat) (st : St), chkE P ρ N ops B bf es = true → l.size = ops.size → Closed ops (Dn l) →
      (∀ k, Dn l k ↔ k ∈ bf) → (∀ k, k ∈ all ↔ k ∈ bf ∨ k ∈ es.map (·.1)) → (∀ k ∈ es.map (·.1), k ∉ bf) → (es.map (·.1)).Nodup → und ops l ≤ fuel → Inv ρ σ₀ H₀ w₀ N σ a w st → vreg P ρ (es.map (·.2)) st Qp → wpAny P .any ops Q fuel l a w
  | [], bf, fuel, l, a, w, σ, st, _, hl, hclo, hbf, hall, _, _, hu, hi, hv =>
    hq st σ a w l fuel (by rw [List.map_nil, vreg_n] at hv; exact hv) hi hl hclo (fun k => by rw [hbf, hall]; simp) hu
  | (i, p) :: r, bf, fuel, l, a, w, σ, st, hc, hl, hclo, hbf, hall, hdis, hnd, hf, hi, hv => by
    have hu : ¬ Dn l i := fun h => hdis i (by simp) ((hbf i).1 h)
    obtain ⟨oi, hoi, hci⟩ := chkE_at hc (p := (i, p)) (by simp)
    have hilt : i < ops.size := (Array.getElem?_eq_some_iff.1 hoi).1
    have hpos := und_pos hilt hu
    obtain ⟨fuel, rfl⟩ : ∃ f', fuel = f' + 1 := ⟨fuel - 1, by omega⟩
    refine ⟨fun h => (ready_ex hB hl hilt hu h).elim, fun k hk => ?_⟩
    obtain ⟨h1, h2, o, ho, h3⟩ := ready_spec hk
    have hklt : k < ops.size := (Array.getElem?_eq_some_iff.1 ho).1
    simp only [chkE, Bool.and_eq_true, List.all_eq_true] at hc
    have hki : k = i := by
      have hm := hc.1.2 k (List.mem_range.2 hklt)
      simp only [Bool.or_eq_true, beq_iff_eq] at hm
      rcases hm with (hm | hm) | hm
      · rw [List.contains_iff_mem] at hm
        exact (h1 ((hbf k).2 hm)).elim
      · exact hm
      · exact (hu (hclo.ready hB ho h3 i hm)).elim
    subst hki
    rw [hoi] at ho; cases ho
    simp only [List.map_cons, List.nodup_cons] at hnd
    refine wpOp_of hoi (one_step hfn hci hi (vreg_cons hv) ?_)
    intro σ' a' w' st' hR hi'
    have hset := Dn_set h2
    refine phase0 hfn hB hq r (k :: bf) fuel (l.setIfInBounds k true) a' w' σ' st' hc.2 (by simpa using hl) ?_ ?_ ?_ ?_ hnd.2 ?_ hi' hR
    · rw [hset]
      intro x ox hox hx n hn
      rcases hx with hx | rfl
      · exact .inl (hclo x ox hox hx n hn)
      · rw [hoi] at hox; cases hox
        exact .inl (h3 n hn)
    · rw [hset]
      intro x
      show (Dn l x ∨ x = k) ↔ _
      rw [List.mem_cons, hbf]
      exact Or.comm
    · intro x
      rw [hall, List.map_cons, List.mem_cons, List.mem_cons]
      constructor
      · rintro (h | h | h)
        · exact .inl (.inr h)
        · exact .inl (.inl h)
        · exact .inr h
      · rintro ((h | h) | h)
        · exact .inr (.inl h)
        · exact .inl h
        · exact .inr (.inr h)
    · intro x hx hxb
      rcases List.mem_cons.1 hxb with rfl | hxb
      · exact hnd.1 hx
      · exact hdis x (by simp only [List.map_cons, List.mem_cons]; exact .inr hx) hxb
    · have := und_set hklt hl h1
      omega

theorem drw_sound {id : Nat} {Q : Exit → Act → World → Prop} {Qp : St → Prop} {es xs : List (Nat × PI)} {ns : List NI} {fs : List (Nat × PI)} {σ : Nat → Nat} {w : World} {a : Act} {st : St}
    (hfn : ∀ f, fnOk P (ρ f) = true) (hm : P.follows .mixedOrders = true) (hc : chkDrw P ρ N ops es xs ns fs B = true) (hi : Inv ρ σ₀ H₀ w₀ N σ a w st) (hv : vdrw P ρ es xs ns fs st Qp)
    (hq : ∀ st' σ' a' w', Qp st' → Inv ρ σ₀ H₀ w₀ N σ' a' w' st' → Q .normal a' w') : (Code.region id ops true).wp P Q a w := by
  simp only [chkDrw, Bool.and_eq_true, List.all_eq_true] at hc
  obtain ⟨⟨⟨⟨⟨⟨⟨hB, hnodB⟩, hcov⟩, hinj⟩, hX⟩, hN⟩, hF⟩, hE⟩ := hc
  have hnod0 := nodupB_spec hnodB
  have nodE : (es.map (·.1)).Nodup := (List.nodup_append.1 hnod0).1
  have disE := (List.nodup_append.1 hnod0).2.2
  have hnod := (List.nodup_append.1 hnod0).2.1
  refine wp_region_any hm ?_
  have hun0 : ∀ k, ¬ Dn (Array.replicate ops.size false) k := by
    intro k
    unfold Dn
    by_cases h : k < ops.size <;> simp [h]
  have hi1 : Inv ρ σ₀ H₀ w₀ N σ a { w with drawn := w.drawn + 1 } st :=
    ⟨hi.f, ⟨⟨hi.s.h.at_, hi.s.h.sep, hi.s.h.clo⟩, ⟨hi.s.k.os, hi.s.k.tape, hi.s.k.output, hi.s.k.size, hi.s.k.old⟩, hi.s.len, hi.s.same, hi.s.rof, hi.s.fresh⟩, hi.sz, hi.df⟩
  refine phase0 hfn hB (Qp := fun st' => vdrx P ρ xs ns fs st' Qp) (all := es.map (·.1)) ?_ es [] ops.size (Array.replicate ops.size false) a { w with drawn := w.drawn + 1 } σ st hE (by simp) (fun i o ho hD => (hun0 i hD).elim) (fun k => ⟨fun h => (hun0 k h).elim, fun h => by cases h⟩) (fun k => by simp) (fun k _ h => by cases h) nodE ?_ hi1 (vregp_eq.mp hv)
  rotate_left
  · unfold und
    have := List.length_filter_le (fun i => !(Array.replicate ops.size false).getD i false) (List.range ops.size)
    simpa using this
  clear hv hi hi1 hun0
  rintro ⟨frs, hps⟩ σ a w l0 fuel0 hv hi hl0 hclo0 hD0 hu0
  generalize hst : (St.mk frs hps) = st at *
  obtain ⟨rfl, rfl⟩ : frs = st.fr ∧ hps = st.hp := by subst hst; exact ⟨rfl, rfl⟩
  clear hst
  obtain ⟨L, frX, hL, hres, hvN⟩ := vX_res hv
  obtain ⟨ct, hct, hv2⟩ := vN_spec hvN
  have hLi : xs.map (·.1) = L.map (·.1) := by rw [← hL, List.map_map]; rfl
  rw [hLi] at hnod hcov hN hF disE
  have nodL : (L.map (·.1)).Nodup := (List.nodup_append.1 (List.nodup_append.1 hnod).1).1
  have nodR := (List.nodup_append.1 (List.nodup_append.1 hnod).1).2.1
  have nodN : (ns.map (·.i)).Nodup := (List.nodup_append.1 nodR).1
  have nodS : (storeIx ns).Nodup := (List.nodup_append.1 nodR).2.1
  have nodF : (fs.map (·.1)).Nodup := (List.nodup_append.1 hnod).2.1
  have disLR := (List.nodup_append.1 (List.nodup_append.1 hnod).1).2.2
  have disNS := (List.nodup_append.1 nodR).2.2
  have disF := (List.nodup_append.1 hnod).2.2
  -- the list's entries
  have hLat : ∀ x ∈ L, ∃ o, ops[x.1]? = some o ∧ chkI P ρ N ops o x.2.1 = true := by
    intro x hx
    obtain ⟨L1, L2, rfl⟩ := List.append_of_mem hx
    have : xs = L1.map (fun x => (x.1, x.2.1)) ++ (x.1, x.2.1) :: L2.map (fun x => (x.1, x.2.1)) := by rw [← hL]; simp
    rw [this] at hX
    exact (chkX_at hX).1
  have hdL : ∀ z ∈ L, dstOf ops z.1 = z.2.1.d := by
    intro z hz
    obtain ⟨o, ho, hci⟩ := hLat z hz
    simp only [chkI, Bool.and_eq_true] at hci
    have := (chkDst_spec hci.1.1).1
    simp [dstOf, ho, this]
  have hNq : ∀ q ∈ ns, ∃ o, ops[q.i]? = some o ∧ o.dst = some q.d ∧ q.d < N ∧ o.guard = none ∧ chkOp P ρ o.op (.alo q.z) = true := by
    intro q hq
    have := hN q hq
    simp only [chkN, Bool.and_eq_true] at this
    have h1 := this.1
    split at h1
    · rename_i o ho
      simp only [Bool.and_eq_true, beq_iff_eq, decide_eq_true_eq, Option.isNone_iff_eq_none] at h1
      exact ⟨o, ho, h1.1.1.1, h1.1.1.2, h1.1.2, h1.2⟩
    · cases h1
  have hnd : ∀ q ∈ ns, dstOf ops q.i = some q.d := by
    intro q hq
    obtain ⟨o, ho, h1, -⟩ := hNq q hq
    simp [dstOf, ho, h1]
  have hSq : ∀ q ∈ ns, ∀ j x m, q.s = some (j, x, m) → bt B j q.i = true ∧ q.z.size = m ∧ (∀ s ∈ x.sl, readOk ops B (L.map (·.1) ++ es.map (·.1)) j s = true) ∧
      ∃ o, ops[j]? = some o ∧ o.dst = none ∧ o.guard = none ∧ ∃ t v, o.op = .store t (.tmp q.d) v ∧ sizeT P t = some m ∧ chkAr ρ v x = true := by
    intro q hq j x m hs
    have := hN q hq
    simp only [chkN, Bool.and_eq_true] at this
    have h1 := this.2
    rw [hs] at h1
    simp only [Bool.and_eq_true, beq_iff_eq, List.all_eq_true] at h1
    obtain ⟨⟨⟨h1, h2⟩, h3⟩, h4⟩ := h1
    refine ⟨h1, h2, h3, ?_⟩
    split at h4
    · rename_i o ho
      simp only [Bool.and_eq_true, Option.isNone_iff_eq_none] at h4
      obtain ⟨⟨h5, h6⟩, h7⟩ := h4
      refine ⟨o, ho, h5, h6, ?_⟩
      split at h7
      · rename_i t d v hop
        simp only [Bool.and_eq_true, beq_iff_eq] at h7
        obtain ⟨⟨rfl, h8⟩, h9⟩ := h7
        exact ⟨t, v, hop, h8, h9⟩
      · cases h7
    · cases h4
  have memS : ∀ q ∈ ns, ∀ j x m, q.s = some (j, x, m) → j ∈ storeIx ns := by
    intro q hq j x m hs
    unfold storeIx
    rw [List.mem_filterMap]
    exact ⟨q, hq, by rw [hs]; rfl⟩
  have hnLN : ∀ z ∈ L, ∀ q ∈ ns, z.1 ≠ q.i := fun z hz q hq e =>
    disLR z.1 (List.mem_map_of_mem hz) q.i (List.mem_append.2 (.inl (List.mem_map_of_mem hq))) e
  have hnLS : ∀ z ∈ L, ∀ q ∈ ns, ∀ j x m, q.s = some (j, x, m) → z.1 ≠ j := fun z hz q hq j x m hs e =>
    disLR z.1 (List.mem_map_of_mem hz) j (List.mem_append.2 (.inr (memS q hq j x m hs))) e
  have hnNS : ∀ q ∈ ns, ∀ q' ∈ ns, ∀ j x m, q'.s = some (j, x, m) → q.i ≠ j := fun q hq q' hq' j x m hs e =>
    disNS q.i (List.mem_map_of_mem hq) j (memS q' hq' j x m hs) e
  have hnq : ∀ q ∈ ns, ∀ q' ∈ ns, q'.i = q.i → q' = q := by
    intro q hq q' hq' e
    obtain ⟨k, hk⟩ := List.getElem?_of_mem hq
    obtain ⟨k', hk'⟩ := List.getElem?_of_mem hq'
    have := nodup_ix nodN hk' hk e
    subst this
    rw [hk] at hk'; cases hk'; rfl
  have hsj : ∀ q ∈ ns, ∀ q' ∈ ns, ∀ j x m x' m', q.s = some (j, x, m) → q'.s = some (j, x', m') → q' = q := by
    have key : ∀ (l : List NI), (storeIx l).Nodup → ∀ q ∈ l, ∀ q' ∈ l, ∀ j x m x' m', q.s = some (j, x, m) → q'.s = some (j, x', m') → q' = q := by
      intro l
      induction l with
      | nil => intro _ q hq; cases hq
      | cons y r ih =>
        intro hnd q hq q' hq' j x m x' m' h1 h2
        have tail : (storeIx r).Nodup := by
          unfold storeIx at hnd ⊢
          simp only [List.filterMap_cons] at hnd
          split at hnd
          · exact hnd
          · exact (List.nodup_cons.1 hnd).2
        have mem : ∀ q ∈ r, ∀ j x m, q.s = some (j, x, m) → j ∈ storeIx r := by
          intro q hq j x m hs
          unfold storeIx
          rw [List.mem_filterMap]
          exact ⟨q, hq, by rw [hs]; rfl⟩
        have head : ∀ j x m, y.s = some (j, x, m) → j ∉ storeIx r := by
          intro j x m hs
          unfold storeIx at hnd ⊢
          simp only [List.filterMap_cons, hs, Option.map_some] at hnd
          exact (List.nodup_cons.1 hnd).1
        rcases List.mem_cons.1 hq with hqy | hqr <;> rcases List.mem_cons.1 hq' with hqy' | hqr'
        · rw [hqy, hqy']
        · subst hqy; exact (head j x m h1 (mem q' hqr' j x' m' h2)).elim
        · subst hqy'; exact (head j x' m' h2 (mem q hqr j x m h1)).elim
        · exact ih tail q hqr q' hqr' j x m x' m' h1 h2
    exact fun q hq q' hq' j x m x' m' => key ns nodS q hq q' hq' j x m x' m'
  have hfr : ∀ s v, lk st.fr s = some v → v.lt st.hp.length = true := hi.f.clo
  have hcz : ∀ q ∈ ns, frz (ct q) = (0, 0) := by
    intro q hq
    have hK := hct q hq (fun c => c = ct q) rfl
    unfold vcont at hK
    split at hK
    · rw [← hK]
      cases q.z <;> rfl
    · split at hK
      · split at hK
        · rw [← hK.2]; rfl
        · exact hK.elim
      · split at hK
        · exact hK.elim
        · rw [← hK.2]; rfl
      · exact hK.elim
  have hcl : (∀ s u, lk frX s = some u → u.lt st.hp.length = true) → ∀ q ∈ ns, (ct q).lt st.hp.length = true := by
    intro hxl q hq
    have hK := hct q hq (fun c => c = ct q) rfl
    unfold vcont at hK
    split at hK
    · rw [← hK]
      cases q.z <;> rfl
    · rename_i j x m hs
      split at hK
      · split at hK
        · rw [← hK.2]; rfl
        · exact hK.elim
      · rename_i v hne he
        split at hK
        · exact hK.elim
        · rw [← hK.2]
          simp only [Bk.lt, Bool.and_eq_true]
          refine ⟨?_, hK.1⟩
          cases x with
          | t s => exact hxl s _ he
          | c b =>
            simp only [ev, Option.some.injEq, Sv.one.injEq] at he
            subst he
            obtain ⟨-, -, -, o, -, -, -, t, v', -, -, hca⟩ := hSq q hq j _ m hs
            unfold chkAr at hca
            split at hca
            · rename_i heq; cases heq
            · rename_i heq; cases heq; exact (isVal_sound (ρ := ρ) (σ := σ) hca).2 _
            · rename_i heq; cases heq; rfl
            · cases hca
      · exact hK.elim
  have idx_lt : ∀ k ∈ L.map (·.1) ++ (ns.map (·.i) ++ storeIx ns), k < ops.size := by
    intro k hk
    rcases List.mem_append.1 hk with hk | hk
    · obtain ⟨z, hz, rfl⟩ := List.mem_map.1 hk
      obtain ⟨o, ho, -⟩ := hLat z hz
      exact (Array.getElem?_eq_some_iff.1 ho).1
    · rcases List.mem_append.1 hk with hk | hk
      · obtain ⟨q, hq, rfl⟩ := List.mem_map.1 hk
        obtain ⟨o, ho, -⟩ := hNq q hq
        exact (Array.getElem?_eq_some_iff.1 ho).1
      · unfold storeIx at hk
        obtain ⟨q, hq, hk⟩ := List.mem_filterMap.1 hk
        obtain ⟨⟨j, x, m⟩, hs, rfl⟩ := Option.map_eq_some_iff.1 hk
        obtain ⟨-, -, -, o, ho, -⟩ := hSq q hq j x m hs
        exact (Array.getElem?_eq_some_iff.1 ho).1
  have cov' : ∀ k, k < ops.size → k ∈ es.map (·.1) ∨ k ∈ L.map (·.1) ++ (ns.map (·.i) ++ storeIx ns) ∨ k ∈ fs.map (·.1) := by
    intro k hk
    have := hcov k (List.mem_range.2 hk)
    rw [List.contains_iff_mem] at this
    exact (List.mem_append.1 this).imp (fun h => h) List.mem_append.1
  have disE' : ∀ k ∈ es.map (·.1), k ∉ L.map (·.1) ++ (ns.map (·.i) ++ storeIx ns) ∧ k ∉ fs.map (·.1) := fun k hk =>
    ⟨fun h => disE k hk k (List.mem_append.2 (.inl h)) rfl, fun h => disE k hk k (List.mem_append.2 (.inr h)) rfl⟩
  -- when all of the first part is done
  have late : ∀ (fuel : Nat) (l : Array Bool) (a : Act) (w : World) (bs : Nat → Nat) (base : Nat), DI P ρ σ₀ H₀ w₀ N ops st.fr st.hp σ (es.map (·.1)) L ns ct base (Dn l) a w bs → l.size = ops.size → (∀ k ∈ fs.map (·.1), ¬ Dn l k) → und ops l ≤ fuel → (∀ k ∈ es.map (·.1), Dn l k) →
      (∀ k ∈ L.map (·.1) ++ (ns.map (·.i) ++ storeIx ns), Dn l k) → wpAny P .any ops Q fuel l a w := by
    intro fuel l a w bs base di hl hun hu hes hearly
    have hallL : ∀ z ∈ L, Dn l z.1 := fun z hz => hearly _ (List.mem_append.2 (.inl (List.mem_map_of_mem hz)))
    have hxl : ∀ s u, lk frX s = some u → u.lt st.hp.length = true := by
      intro s u hlk
      rcases ResL_lk hres hlk with ⟨y, hy, hyd, hal⟩ | ⟨hn, hlk⟩ | ⟨y, hy, z, hz, hyd, hzd, hne⟩
      · rw [← hal y hy hyd rfl]
        exact di.xl y hy (hallL y hy)
      · exact hfr s u hlk
      · exact (hne (mem_unique nodL hy hz (dst_inj hinj (s := s) (by rw [hdL y hy]; exact hyd) (by rw [hdL z hz]; exact hzd)))).elim
    have hinv := di.finish hres hfr hinj hdL nodL hnd hallL
      (fun q hq => ⟨hearly _ (List.mem_append.2 (.inr (List.mem_append.2 (.inl (List.mem_map_of_mem hq))))), fun j x m hs => hearly _ (List.mem_append.2 (.inr (List.mem_append.2 (.inr (memS q hq j x m hs)))))⟩)
      (fun j s hD hje hj => by
        have hjl : j < ops.size := by
          unfold dstOf at hj
          obtain ⟨o, ho, -⟩ := Option.bind_eq_some_iff.1 hj
          exact (Array.getElem?_eq_some_iff.1 ho).1
        rcases (cov' j hjl).resolve_left hje with h | h
        · rcases List.mem_append.1 h with h | h
          · obtain ⟨z, hz, rfl⟩ := List.mem_map.1 h
            exact .inl ⟨z, hz, rfl⟩
          · rcases List.mem_append.1 h with h | h
            · obtain ⟨q, hq, rfl⟩ := List.mem_map.1 h
              exact .inr ⟨q, hq, rfl⟩
            · unfold storeIx at h
              obtain ⟨q, hq, hk⟩ := List.mem_filterMap.1 h
              obtain ⟨⟨j', x, m⟩, hs, rfl⟩ := Option.map_eq_some_iff.1 hk
              obtain ⟨-, -, -, o, ho, hd0, -⟩ := hSq q hq j' x m hs
              simp [dstOf, ho, hd0] at hj
        · exact (hun j h hD).elim)
      (hcl hxl) hcz nodN
    exact phase2 hfn hB hq fs _ fuel l a w _ _ hF hl di.clo (fun k hk => (cov' k hk).elim (fun h => .inl (hes k h)) fun h => h.imp (hearly k) (fun h => h)) hun nodF hu hinv (vregp_eq.mp hv2)
  -- the first part
  have phase1 : ∀ (fuel : Nat) (l : Array Bool) (a : Act) (w : World) (bs : Nat → Nat) (base : Nat), DI P ρ σ₀ H₀ w₀ N ops st.fr st.hp σ (es.map (·.1)) L ns ct base (Dn l) a w bs → l.size = ops.size → (∀ k ∈ fs.map (·.1), ¬ Dn l k) → und ops l ≤ fuel → (∀ k ∈ es.map (·.1), Dn l k) →
      wpAny P .any ops Q fuel l a w := by
    intro fuel
    induction fuel with
    | zero =>
      intro l a w bs base di hl hun hu hes
      exact late 0 l a w bs base di hl hun hu hes (fun k hk => Classical.byContradiction fun h => by
        have hk' : k < ops.size := idx_lt k hk
        have := und_pos hk' h
        omega)
    | succ fuel ih =>
      intro l a w bs base di hl hun hu hes
      by_cases hearly : ∀ k ∈ L.map (·.1) ++ (ns.map (·.i) ++ storeIx ns), Dn l k
      · exact late (fuel + 1) l a w bs base di hl hun hu hes hearly
      · simp only [Classical.not_forall] at hearly
        obtain ⟨k0, hk0, hu0⟩ := hearly
        refine ⟨fun h => (ready_ex hB hl (idx_lt k0 hk0) hu0 h).elim, fun i hir => ?_⟩
        obtain ⟨h1, h2, o, ho, h3⟩ := ready_spec hir
        have hilt : i < ops.size := (Array.getElem?_eq_some_iff.1 ho).1
        have hset := Dn_set h2
        have hund := und_set hilt hl h1
        have hun' : i ∈ L.map (·.1) ++ (ns.map (·.i) ++ storeIx ns) → ∀ k ∈ fs.map (·.1), ¬ Dn (l.setIfInBounds i true) k := by
          intro hie k hk
          rw [hset]
          rintro (h | h)
          · exact hun k hk h
          · subst h
            exact disF k hie k hk rfl
        have hine : i ∉ es.map (·.1) := fun h => h1 (hes i h)
        rcases (cov' i hilt).resolve_left hine with hie | hif
        · have go : ∀ (a' : Act) (w' : World) (bs' : Nat → Nat), DI P ρ σ₀ H₀ w₀ N ops st.fr st.hp σ (es.map (·.1)) L ns ct base (fun k => Dn l k ∨ k = i) a' w' bs' → wpAny P .any ops Q fuel (l.setIfInBounds i true) a' w' := by
            intro a' w' bs' di'
            rw [← hset] at di'
            exact ih _ a' w' bs' base di' (by simpa using hl) (hun' hie) (by omega) (fun k hk => by rw [hset]; exact .inl (hes k hk))
          rcases List.mem_append.1 hie with hiL | hiR
          · -- an operation of the list
            obtain ⟨y, hy, rfl⟩ := List.mem_map.1 hiL
            obtain ⟨o', ho', hci⟩ := hLat y hy
            rw [ho] at ho'; cases ho'
            obtain ⟨L1, L2, frx, hLe, hres1, hone⟩ := ResL_at hres hy
            have hXe : xs = L1.map (fun x => (x.1, x.2.1)) ++ (y.1, y.2.1) :: L2.map (fun x => (x.1, x.2.1)) := by rw [← hL, hLe]; simp
            have hread : ∀ s ∈ y.2.1.op.sl ++ guardSl y.2.1.g, ∀ u, lk frx s = some u → a.tmps[s]? = some (renS ρ σ u) ∧ u.lt st.hp.length = true := by
              intro s hs u hlk
              have h4 : readOk ops B (L1.map (·.1) ++ es.map (·.1)) y.1 s = true := by
                rw [hXe] at hX
                have h5 := (chkX_at hX).2 s hs
                rw [← h5]
                apply readOk_congr
                intro j
                rw [Bool.eq_iff_iff]
                simp only [List.contains_iff_mem, List.mem_append, List.map_map, Function.comp_def]
                exact Or.comm
              exact di.read hB hinj hfr ho h1 h3 (fun z hz => by rw [hLe]; simp [hz]) hdL nodL hres1 h4 hlk
            simp only [chkI, Bool.and_eq_true] at hci
            obtain ⟨⟨c1, c2⟩, c3⟩ := hci
            obtain ⟨hd, hdN⟩ := chkDst_spec c1
            have hdN' : ∀ t, y.2.1.d = some t → t < N := fun t ht => hdN t (by rw [hd]; exact ht)
            have fin : ∀ (σ' : Nat → Nat) (w' : World), Sp ρ σ st.hp w σ' st.hp w' → y.2.2.lt st.hp.length = true → wpAny P .any ops Q fuel (l.setIfInBounds y.1 true) (a.put o.dst (renS ρ σ' y.2.2)) w' := by
              intro σ' w' sp hl'
              rw [hd]
              exact go _ _ bs (di.stepX hinj hy (hdL y hy) nodL ho h3 hine hdN' hdL hnd (fun q hq e => hnLN y hy q hq e.symm) (fun q hq j x m hs e => hnLS y hy q hq j x m hs e.symm) sp hl')
            have hsm : FRel ρ σ a.tmps (small frx y.2.1.op.sl) st.hp.length := by
              refine ⟨?_, ?_⟩
              · intro s u hlk
                rw [small_lk] at hlk
                split at hlk
                · rename_i hs; exact (hread s (List.mem_append.2 (.inl hs)) u hlk).1
                · cases hlk
              · intro s u hlk
                rw [small_lk] at hlk
                split at hlk
                · rename_i hs; exact (hread s (List.mem_append.2 (.inl hs)) u hlk).2
                · cases hlk
            have run : vop P ρ frx st.hp y.2.1.op (fun v' H' => v' = y.2.2 ∧ H' = st.hp) → o.wp P a w (wpAny P .any ops Q fuel (l.setIfInBounds y.1 true)) Q := by
              intro hvo
              refine op_sound hfn c3 hsm di.sp.h (vop_congr (fun s hs => by rw [small_lk, if_pos hs]) hvo) ?_
              rintro v H' σ' w' ⟨rfl, rfl⟩ sp hl'
              exact fin σ' w' sp hl'
            refine wpOp_of ho ?_
            unfold chkGuard at c2
            unfold One at hone
            split at c2
            · rename_i g1 g2
              rw [g2] at hone
              rw [if_pos (by simp [Region.wanted, g1])]
              exact run hone
            · rename_i jj b s b' g1 g2
              simp only [Bool.and_eq_true, beq_iff_eq] at c2
              obtain ⟨rfl, c2⟩ := c2
              rw [g2] at hone
              obtain ⟨u, hg, hone⟩ := hone
              obtain ⟨ht, -⟩ := hread s (by rw [g2]; simp [guardSl]) _ hg
              rcases hone with ⟨rfl, e1⟩ | ⟨hoff, e2⟩
              · have hyl : yielded ops a.tmps jj = some b := by
                  unfold yielded
                  rw [c2]
                  simp [ht, renS, ren]
                rw [if_pos (by simp [Region.wanted, g1, hyl])]
                exact run e1
              · have hyl : yielded ops a.tmps jj ≠ some b := by
                  unfold yielded
                  rw [c2]
                  unfold offB at hoff
                  split at hoff
                  · simp only [bne_iff_ne, ne_eq] at hoff
                    simpa [ht, renS, ren] using hoff
                  · simp [ht, renS]
                  · cases hoff
                rw [if_neg (by simp [Region.wanted, g1, hyl])]
                have := fin σ w (Sp.refl di.sp.h) (by rw [e2]; rfl)
                rw [e2] at this
                exact this
            · cases c2
          · rcases List.mem_append.1 hiR with hiN | hiS
            · -- a new variable
              obtain ⟨q, hq, rfl⟩ := List.mem_map.1 hiN
              obtain ⟨o', ho', e1, e2, e3, e4⟩ := hNq q hq
              rw [ho] at ho'; cases ho'
              refine wpOp_of ho ?_
              rw [if_pos (by simp [Region.wanted, e3])]
              simp only [chkOp] at e4
              split at e4
              · rename_i t hop
                obtain ⟨v, z1, z2, z3⟩ := zeroOk_sound (ρ := ρ) (σ := σ) (H := st.hp) (w := w) e4
                refine value_wp (w' := { w with heap := w.heap.push (.cells (cellsB ρ σ q.z.bk) t) }) (v := .pointer (some ⟨w.heap.size, 0, none⟩)) ?_ ?_
                · simp [execOp, hop, Instr.alloc, z1, newVar, newRow, z2]
                · rw [e1]
                  refine go _ _ _ (di.stepN hB hinj hq ho h1 h3 hine e2 hdL hnd (fun z hz => hnLN z hz q hq) (fun q1 hq1 q2 hq2 j x m hs e => hnNS q1 hq1 q2 hq2 j x m hs e.symm) (fun q' hq' e => hnq q hq q' hq' e) ?_ ?_ t)
                  · intro hs
                    have := hct q hq (fun c => c = ct q) rfl
                    unfold vcont at this
                    rw [hs] at this
                    exact this.symm
                  · intro j x m hs
                    obtain ⟨s1, -, -, oj, hoj, -⟩ := hSq q hq j x m hs
                    exact ⟨s1, (Array.getElem?_eq_some_iff.1 hoj).1⟩
              · cases e4
            · -- a store into one
              unfold storeIx at hiS
              obtain ⟨q, hq, hk⟩ := List.mem_filterMap.1 hiS
              obtain ⟨⟨j, x, m⟩, hs, rfl⟩ := Option.map_eq_some_iff.1 hk
              obtain ⟨s1, s2, s3, o', ho', s4, s5, t, v, s6, s7, s8⟩ := hSq q hq j x m hs
              simp only at ho h1 h2 h3 hilt hset hund hun' hie go hiR
              rw [ho] at ho'; cases ho'
              have hDq := di.clo.ready hB ho h3 q.i s1
              obtain ⟨p1, p2, T, p3⟩ := di.nn q hq hDq
              have hcv := hct q hq (fun c => c = ct q) rfl
              unfold vcont at hcv
              simp only [hs] at hcv
              have hread : ∀ u, ev frX x = some u → a.eval v = renS ρ σ u := by
                intro u hu
                have hsm : FRel ρ σ a.tmps (small frX x.sl) st.hp.length := by
                  have rd : ∀ s ∈ x.sl, ∀ u, lk frX s = some u → a.tmps[s]? = some (renS ρ σ u) ∧ u.lt st.hp.length = true := by
                    intro s hs' u hlk
                    exact di.read hB hinj hfr ho h1 h3 (fun z hz => hz) hdL nodL hres (s3 s hs') hlk
                  refine ⟨?_, ?_⟩
                  · intro s u hlk
                    rw [small_lk] at hlk
                    split at hlk
                    · rename_i hs'; exact (rd s hs' u hlk).1
                    · cases hlk
                  · intro s u hlk
                    rw [small_lk] at hlk
                    split at hlk
                    · rename_i hs'; exact (rd s hs' u hlk).2
                    · cases hlk
                refine (chkAr_sound s8 hsm ?_).1
                rw [← hu]
                exact (ev_congr fun s hs' => by rw [small_lk, if_pos hs']).symm
              have hev : ∃ u, a.eval v = u ∧ u.cells = cellsB ρ σ (ct q) ∧ u.cells.size = m ∧ (∀ c ∈ u.cells.toList, c.oneCell' = true) := by
                split at hcv
                · rename_i hd n f he
                  split at hcv
                  · rename_i hh mm hz
                    refine ⟨_, hread _ he, ?_, ?_, ?_⟩
                    · rw [← hcv.2]; rfl
                    · rw [hz] at s2
                      simp only [Zk.size] at s2
                      simp only [renS, ren, Value.cells, cellsOf_size]
                      rw [hcv.1, s2]
                    · exact cellsOf_one _ _ _
                  · exact hcv.elim
                · rename_i b hne he
                  split at hcv
                  · exact hcv.elim
                  · rename_i hz
                    obtain ⟨o1, o2⟩ := ren_one (ρ := ρ) (σ := σ) hcv.1
                    refine ⟨_, hread _ he, ?_, ?_, ?_⟩
                    · rw [← hcv.2]; exact o2
                    · simp only [renS]
                      rw [o2]
                      cases hqz : q.z with
                      | «by» h n => exact (hz _ _ hqz).elim
                      | _ => rw [hqz] at s2; exact s2
                    · intro c hc
                      simp only [renS, o2] at hc
                      simp at hc
                      subst hc
                      exact o1
                · exact hcv.elim
              obtain ⟨u, hu1, hu2, hu3, hu4⟩ := hev
              have hptr : a.eval (.tmp q.d) = .pointer (some ⟨bs q.i, 0, none⟩) := by simp [Act.eval, p1]
              have hzs : ∀ z : Zk, (cellsB ρ σ z.bk).size = z.size := by
                intro z; cases z <;> simp [Zk.bk, cellsB, cellsOf_size, Zk.size]
              have hcell : ∃ cs, w.heap[bs q.i]? = some (.cells cs T (0, 0)) ∧ cs.size = m := by
                rcases p3 with p3 | ⟨-, p3⟩
                · exact ⟨_, p3, by rw [← hu2]; exact hu3⟩
                · exact ⟨_, p3, by rw [hzs]; exact s2⟩
              obtain ⟨cs, hcs1, hcs2⟩ := hcell
              have hrun := run_storeAll (P := P) (off := 0) s7 hu3 hcs1 (by omega) hu4
              have hfull : (cs.toList.take 0 ++ u.cells.toList ++ cs.toList.drop (0 + m)).toArray = cellsB ρ σ (ct q) := by
                rw [List.take_zero, List.nil_append, List.drop_of_length_le (by simp; omega), List.append_nil, hu2]
              rw [hfull] at hrun
              refine wpOp_of ho ?_
              rw [if_pos (by simp [Region.wanted, s5])]
              refine skip_wp (w' := w.setRow (bs q.i) (cellsB ρ σ (ct q))) ?_ ?_
              · simp [execOp, s6, hptr, hu1, Instr.storeAt, Instr.sureAddr, hrun]
              · rw [s4]
                exact go a _ bs (di.stepS hq hs ho h3 hDq (by simp [dstOf, ho, s4]) (fun z hz => hnLS z hz q hq j x m hs) (fun q' hq' => hnNS q' hq' q hq j x m hs) (fun q' hq' e => hnq q hq q' hq' e) (fun q' hq' x' m' hs' => hsj q hq q' hq' j x m x' m' hs hs'))
        · exfalso
          obtain ⟨p, hp, rfl⟩ := List.mem_map.1 hif
          obtain ⟨-, h4⟩ := chkF_at hF hp
          exact hu0 (di.clo.ready hB ho h3 k0 (h4 k0 hk0))
  refine phase1 fuel0 l0 a w (fun _ => 0) w.heap.size ?_ hl0 (fun k hk h => (disE' k ((hD0 k).1 h)).2 hk) hu0 (fun k hk => (hD0 k).2 hk)
  have hnE : ∀ k ∈ L.map (·.1) ++ (ns.map (·.i) ++ storeIx ns), ¬ Dn l0 k := fun k hk h => (disE' k ((hD0 k).1 h)).1 hk
  refine ⟨hclo0, fun s v hlk _ => hi.f.val s v hlk, fun y hy hD => (hnE _ (List.mem_append.2 (.inl (List.mem_map_of_mem hy))) hD).elim, fun y hy hD => (hnE _ (List.mem_append.2 (.inl (List.mem_map_of_mem hy))) hD).elim, hi.s,
    fun q hq hD => (hnE _ (List.mem_append.2 (.inr (List.mem_append.2 (.inl (List.mem_map_of_mem hq))))) hD).elim, fun q hq q' hq' hD => (hnE _ (List.mem_append.2 (.inr (List.mem_append.2 (.inl (List.mem_map_of_mem hq))))) hD).elim, fun k hk => hi.s.h.lt hk, hi.s.k.size, Nat.le_refl _, hi.sz, hi.df⟩
end
end Hf
/- The engine, part 15: code, functions. -/
namespace Hf
open Go
inductive PC where
 | skip
 | ret
 | exit (id : Nat)
 | seq (a b : PC)
 | cond (x : Ar) (a b : PC)
 | blk (id : Nat) (c : PC)
 | loop (c : PC)
 | reg (ps : List PI)
 | drw (B : List Nat) (es xs : List (Nat × PI)) (ns : List NI) (fs : List (Nat × PI))

inductive Ex where
 | norm
 | exit (id : Nat)
 | ret

def Ex.ex : Ex → Exit
  | .norm => .normal
  | .exit id => .exit id
  | .ret => .ret

/-- the picked blocks: those that were there, then ps -/
def pk (m : Nat) (ps : List Nat) (j : Nat) : Nat := match (List.range m ++ ps)[j]? with
  | some t => t
  | none => 0
def sel (T : Nat → Nat) (H : List Blk) : List Nat → List Blk → Prop
  | t :: ts, B :: Bs => H[t]? = some ⟨B.ro, mvb T B.c⟩ ∧ sel T H ts Bs
  | [], [] => True
  | _, _ => False
def pickOk (m : Nat) (ps : List Nat) : Bool := ps.all (fun t => Nat.ble m t) && nodupB ps
/-! ### a state that says less -/
def leF : List (Nat × Sv) → List (Nat × Sv) → Prop
  | [], _ => True
  | (s, v) :: r, f => lk f s = some v ∧ leF r f
def leH : List Blk → List Blk → Prop
  | [], _ => True
  | x :: r, y :: r' => x = y ∧ leH r r'
  | _ :: _, [] => False
def cloS (m : Nat) (a : St) : Bool := Nat.ble m a.hp.length && a.fr.all (fun p => p.2.lt a.hp.length) && a.hp.all (fun B => B.c.lt a.hp.length)
/-- a says less than b -/
def le (m : Nat) (a b : St) : Prop := leF a.fr b.fr ∧ leH a.hp b.hp ∧ cloS m a = true

def leP (T : Nat → Nat) : List (Nat × Sv) → List (Nat × Sv) → Prop
  | [], _ => True
  | (s, v) :: r, f => lk f s = some (mvs T v) ∧ leP T r f
/-- the same under a picking of blocks: those below m, then ps -/
def lp (m : Nat) (ps : List Nat) (a b : St) : Prop := leP (pk m ps) a.fr b.fr ∧ sel (pk m ps) b.hp (List.range m ++ ps) a.hp ∧ pickOk m ps = true ∧ cloS m a = true
def leO (m : Nat) (a b : St) : Prop := le m a b ∨ ∃ ps, lp m ps a b

def chkC (P : Program) (ρ : Nat → FuncId) (N : Nat) : Code → PC → Bool
  | .skip, .skip => true
  | .ret, .ret => true
  | .exit id, .exit id' => id == id'
  | .seq a b, .seq a' b' => chkC P ρ N a a' && chkC P ρ N b b'
  | .cond c a b, .cond x a' b' => chkAr ρ c x && chkC P ρ N a a' && chkC P ρ N b b'
  | .block id c, .blk id' c' => id == id' && chkC P ρ N c c'
  | .loop c, .loop c' => chkC P ρ N c c'
  | .region _ ops draw, .reg ps => !draw && chkReg P ρ N ops ops.toList ps
  | .region _ ops draw, .drw B es xs ns fs => draw && chkDrw P ρ N ops es xs ns fs B
  | _, _ => false

section
variable (P : Program) (ρ : Nat → FuncId) (m : Nat)
def kSkip (st : St) (Q : Ex → St → Prop) : Prop := Q .norm st
def kRet (st : St) (Q : Ex → St → Prop) : Prop := Q .ret st
def kExit (id : Nat) (st : St) (Q : Ex → St → Prop) : Prop := Q (.exit id) st
def kSeq (_ _ : PC) (va vb : St → (Ex → St → Prop) → Prop) (st : St) (Q : Ex → St → Prop) : Prop := va st fun e st' => match e with
    | .norm => vb st' Q
    | .exit id => Q (.exit id) st'
    | .ret => Q .ret st'
def kCond (x : Ar) (_ _ : PC) (va vb : St → (Ex → St → Prop) → Prop) (st : St) (Q : Ex → St → Prop) : Prop := match st with
  | ⟨fr, hp⟩ => match ev fr x with
    | some (.one (.b c)) => brB c fun c => match c with
      | true => va ⟨fr, hp⟩ Q
      | false => vb ⟨fr, hp⟩ Q
    | _ => False
def kBlk (id : Nat) (_ : PC) (va : St → (Ex → St → Prop) → Prop) (st : St) (Q : Ex → St → Prop) : Prop := va st fun e st' => match e with
    | .norm => Q .norm st'
    | .exit id' => match Nat.beq id' id with
      | true => Q .norm st'
      | false => Q (.exit id') st'
    | .ret => Q .ret st'
def kLoop (_ : PC) (va : St → (Ex → St → Prop) → Prop) (st : St) (Q : Ex → St → Prop) : Prop := (∃ (I : Nat → St) (F : Nat → Prop) (n : Nat), F 0 ∧ le m (I 0) st ∧ ∀ i, i ≤ n → F i → va (I i) fun e st' => match e with
    | .norm => i < n ∧ F (i + 1) ∧ le m (I (i + 1)) st'
    | .exit id => Q (.exit id) st'
    | .ret => Q .ret st') ∨ ∃ (α : Type) (I : Nat → α → St) (F : Nat → α → Prop) (n : Nat), (∃ x, F 0 x ∧ leO m (I 0 x) st) ∧ ∀ i x, i ≤ n → F i x → va (I i x) fun e st' => match e with
    | .norm => i < n ∧ ∃ y, F (i + 1) y ∧ leO m (I (i + 1) y) st'
    | .exit id => Q (.exit id) st'
    | .ret => Q .ret st'
noncomputable def kReg (ps : List PI) (st : St) (Q : Ex → St → Prop) : Prop := vreg P ρ ps st fun st' => Q .norm st'
noncomputable def kDrw (_ : List Nat) (es xs : List (Nat × PI)) (ns : List NI) (fs : List (Nat × PI)) (st : St) (Q : Ex → St → Prop) : Prop := vdrw P ρ es xs ns fs st fun st' => Q .norm st'
noncomputable def vc (c : PC) : St → (Ex → St → Prop) → Prop :=
 PC.rec (motive := fun _ => St → (Ex → St → Prop) → Prop) kSkip kRet kExit kSeq kCond kBlk (kLoop m) (kReg P ρ) (kDrw P ρ) c
end
section
variable {P : Program} {ρ : Nat → FuncId} {m : Nat} {N : Nat} {σ₀ : Nat → Nat} {H₀ : List Blk} {w₀ : World}
theorem leF_lk : ∀ {a b : List (Nat × Sv)}, leF a b → ∀ s v, lk a s = some v → ∃ p ∈ a, p = (s, v) ∧ lk b s = some v
  | [], _, _, s, v, h => by simp [lk] at h
  | (t, u) :: r, b, hl, s, v, h => by
    simp only [lk] at h
    split at h
    · rename_i e; subst e; cases h
      exact ⟨_, List.mem_cons_self, rfl, hl.1⟩
    · obtain ⟨p, h1, h2, h3⟩ := leF_lk hl.2 s v h
      exact ⟨p, by simp [h1], h2, h3⟩
theorem leH_get : ∀ {a b : List Blk}, leH a b → ∀ (k : Nat) (x : Blk), a[k]? = some x → b[k]? = some x
  | [], _, _, k, x, h => by simp at h
  | x :: r, y :: r', hl, k, z, h => by
    cases k with
    | zero => simp at h ⊢; rw [← h, hl.1]
    | succ k => rw [List.getElem?_cons_succ] at h ⊢; exact leH_get hl.2 k z h
  | _ :: _, [], hl, _, _, _ => hl.elim

theorem Inv.weak {σ : Nat → Nat} {a : Act} {w : World} {x y : St} (hi : Inv ρ σ₀ H₀ w₀ N σ a w y) (hm : H₀.length ≤ m) (hl : le m x y) : Inv ρ σ₀ H₀ w₀ N σ a w x := by
 obtain ⟨h1, h2, h3⟩ := hl
 simp only [cloS, Bool.and_eq_true, List.all_eq_true] at h3
 obtain ⟨⟨h3, h4⟩, h5⟩ := h3
 have hmx : m ≤ x.hp.length := Nat.le_of_ble_eq_true h3
 have hlen : ∀ k, k < x.hp.length → k < y.hp.length := by
  intro k hk
  have := leH_get h2 k x.hp[k] (by simp [hk])
  exact (List.getElem?_eq_some_iff.1 this).1
 refine ⟨⟨?_, ?_⟩, ⟨⟨?_, ?_, ?_⟩, hi.s.k, Nat.le_trans hm hmx, hi.s.same, ?_, ?_⟩, hi.sz, hi.df⟩
 ·intro s v hv
  obtain ⟨p, -, -, e⟩ := leF_lk h1 s v hv
  exact hi.f.val s v e
 ·intro s v hv
  obtain ⟨p, hp, rfl, -⟩ := leF_lk h1 s v hv
  exact h4 _ hp
 ·intro k B hB
  exact hi.s.h.at_ k B (leH_get h2 k B hB)
 ·intro j k B hjk hk hB hro
  exact hi.s.h.sep j k B hjk (hlen k hk) (leH_get h2 j B hB) hro
 ·intro k B hB
  exact h5 B (List.mem_of_getElem? hB)
 ·intro k B B' e e'
  exact hi.s.rof k B B' e (leH_get h2 k B' e')
 ·intro k h1' h2'
  exact hi.s.fresh k h1' (hlen k h2')

theorem sel_get {T : Nat → Nat} {H : List Blk} : ∀ {ts : List Nat} {Bs : List Blk} {j : Nat} {B : Blk}, sel T H ts Bs → Bs[j]? = some B → ∃ t, ts[j]? = some t ∧ H[t]? = some ⟨B.ro, mvb T B.c⟩
  | t :: ts, B0 :: Bs, 0, B, h, e => by
    simp at e; subst e
    exact ⟨t, rfl, h.1⟩
  | t :: ts, B0 :: Bs, j + 1, B, h, e => by
    rw [List.getElem?_cons_succ] at e ⊢
    exact sel_get h.2 e
  | [], [], _, _, _, e => by simp at e
  | [], _ :: _, _, _, h, _ => h.elim
  | _ :: _, [], _, _, h, _ => h.elim
theorem sel_len {T : Nat → Nat} {H : List Blk} : ∀ {ts : List Nat} {Bs : List Blk}, sel T H ts Bs → ts.length = Bs.length
  | [], [], _ => rfl
  | _ :: _, _ :: _, h => by simp [sel_len h.2]
  | [], _ :: _, h => h.elim
  | _ :: _, [], h => h.elim

theorem nodup_get {l : List Nat} {i j x : Nat} (h : l.Nodup) (h1 : l[i]? = some x) (h2 : l[j]? = some x) : i = j := by
  induction l generalizing i j with
  | nil => simp at h1
  | cons y r ih =>
    obtain ⟨hy, hr⟩ := List.nodup_cons.1 h
    cases i with
    | zero =>
      cases j with
      | zero => rfl
      | succ j =>
        simp only [List.getElem?_cons_zero, Option.some.injEq] at h1
        rw [List.getElem?_cons_succ] at h2
        subst h1
        exact (hy (List.mem_of_getElem? h2)).elim
    | succ i =>
      rw [List.getElem?_cons_succ] at h1
      cases j with
      | zero =>
        simp only [List.getElem?_cons_zero, Option.some.injEq] at h2
        subst h2
        exact (hy (List.mem_of_getElem? h1)).elim
      | succ j =>
        rw [List.getElem?_cons_succ] at h2
        rw [ih hr h1 h2]

theorem leP_lk {T : Nat → Nat} : ∀ {a b : List (Nat × Sv)}, leP T a b → ∀ s v, lk a s = some v → ∃ p ∈ a, p = (s, v) ∧ lk b s = some (mvs T v)
  | [], _, _, s, v, h => by simp [lk] at h
  | (t, u) :: r, b, hl, s, v, h => by
    simp only [lk] at h
    split at h
    · rename_i e; subst e; cases h
      exact ⟨_, List.mem_cons_self, rfl, hl.1⟩
    · obtain ⟨p, h1, h2, h3⟩ := leP_lk hl.2 s v h
      exact ⟨p, by simp [h1], h2, h3⟩

theorem Inv.pick {σ : Nat → Nat} {a : Act} {w : World} {x y : St} {ps : List Nat} (hi : Inv ρ σ₀ H₀ w₀ N σ a w y) (hm : H₀.length ≤ m) (hl : lp m ps x y) : Inv ρ σ₀ H₀ w₀ N (fun j => σ (pk m ps j)) a w x := by
 obtain ⟨h1, h2, q4, h3⟩ := hl
 simp only [cloS, Bool.and_eq_true, List.all_eq_true] at h3
 obtain ⟨⟨h3, h4⟩, h5⟩ := h3
 have hmx : m ≤ x.hp.length := Nat.le_of_ble_eq_true h3
 simp only [pickOk, Bool.and_eq_true, List.all_eq_true] at q4
 obtain ⟨p1, p2⟩ := q4
 have p2 := nodupB_spec p2
 have hlen := sel_len h2
 simp only [List.length_append, List.length_range] at hlen
 have hpk : ∀ j B, x.hp[j]? = some B → y.hp[pk m ps j]? = some ⟨B.ro, mvb (pk m ps) B.c⟩ := by
  intro j B hB
  obtain ⟨t, e1, e2⟩ := sel_get h2 hB
  have : pk m ps j = t := by unfold pk; rw [e1]
  rw [this]; exact e2
 have hlo : ∀ j, j < m → pk m ps j = j := by
  intro j hj
  unfold pk
  rw [List.getElem?_append_left (by simpa using hj), List.getElem?_range hj]
 have hhi : ∀ j, m ≤ j → j < x.hp.length → ∃ t, ps[j - m]? = some t ∧ pk m ps j = t ∧ m ≤ t := by
  intro j h1 h2
  have : j - m < ps.length := by omega
  refine ⟨ps[j - m], List.getElem?_eq_getElem this, ?_, Nat.le_of_ble_eq_true (p1 _ (List.getElem_mem this))⟩
  unfold pk
  rw [List.getElem?_append_right (by simpa using h1), List.length_range, List.getElem?_eq_getElem this]
 have hinj : ∀ i j, i < x.hp.length → j < x.hp.length → i ≠ j → pk m ps i ≠ pk m ps j := by
  intro i j hi hj hij
  by_cases h1 : i < m <;> by_cases h2 : j < m
  ·rw [hlo i h1, hlo j h2]; exact hij
  ·obtain ⟨t, -, e2, e3⟩ := hhi j (by omega) hj
   rw [hlo i h1, e2]; omega
  ·obtain ⟨t, -, e2, e3⟩ := hhi i (by omega) hi
   rw [hlo j h2, e2]; omega
  ·obtain ⟨t, e1, e2, e3⟩ := hhi i (by omega) hi
   obtain ⟨t', e1', e2', e3'⟩ := hhi j (by omega) hj
   rw [e2, e2']
   intro e
   subst e
   have := nodup_get p2 e1 e1'
   omega
 have hin : ∀ k, k < x.hp.length → pk m ps k < y.hp.length := by
  intro k hk
  exact (List.getElem?_eq_some_iff.1 (hpk k _ (List.getElem?_eq_getElem hk))).1
 refine ⟨⟨?_, ?_⟩, ⟨⟨?_, ?_, ?_⟩, hi.s.k, Nat.le_trans hm hmx, ?_, ?_, ?_⟩, hi.sz, hi.df⟩
 ·intro s v hv
  obtain ⟨p, -, -, e⟩ := leP_lk h1 s v hv
  rw [← renS_mvs]
  exact hi.f.val s _ e
 ·intro s v hv
  obtain ⟨p, hp, rfl, -⟩ := leP_lk h1 s v hv
  exact h4 _ hp
 ·intro k B hB
  obtain ⟨T, e⟩ := hi.s.h.at_ _ _ (hpk k B hB)
  exact ⟨T, by rw [e, cellsB_mvb, frz_mvb]⟩
 ·intro j k B hjk hk hB hro
  have hj := (List.getElem?_eq_some_iff.1 hB).1
  exact hi.s.h.sep _ _ _ (hinj j k hj hk hjk) (hin k hk) (hpk j B hB) hro
 ·intro k B hB
  exact h5 B (List.mem_of_getElem? hB)
 ·intro k hk
  show σ (pk m ps k) = σ₀ k
  rw [hlo k (by omega)]; exact hi.s.same k hk
 ·intro k B B' e e'
  have hk := (List.getElem?_eq_some_iff.1 e).1
  have := hpk k B' e'
  rw [hlo k (by omega)] at this
  have h5 := hi.s.rof k B _ e this
  exact h5
 ·intro k h1' h2'
  show w₀.heap.size ≤ σ (pk m ps k)
  by_cases hk : k < m
  ·have := hin k h2'
   rw [hlo k hk] at this ⊢
   exact hi.s.fresh k h1' this
  ·obtain ⟨t, e1, e2, e3⟩ := hhi k (by omega) h2'
   have := hin k h2'
   rw [e2] at this ⊢
   exact hi.s.fresh t (by omega) this

theorem Inv.some {σ : Nat → Nat} {a : Act} {w : World} {x y : St} (hi : Inv ρ σ₀ H₀ w₀ N σ a w y) (hm : H₀.length ≤ m) (hl : leO m x y) : ∃ σ', Inv ρ σ₀ H₀ w₀ N σ' a w x := by
 rcases hl with h | ⟨ps, h⟩
 ·exact ⟨σ, hi.weak hm h⟩
 ·exact ⟨_, hi.pick hm h⟩

theorem wp_loop_n {c : Code} {a : Act} {w : World} {Q : Exit → Act → World → Prop} (I : Nat → Act → World → Prop) (n : Nat) (h₀ : I 0 a w)
    (round : ∀ i, i ≤ n → ∀ a w, I i a w → c.wp P (Exit.then (fun a' w' => i < n ∧ I (i + 1) a' w') Q) a w) : (Code.loop c).wp P Q a w := by
  intro b k cs
  have key : ∀ d i a w, i ≤ n → n - i = d → I i a w →
      ∃ e a' w', Q e a' w' ∧ Arrives P (lone (b.at a (.code c :: .inLoop c :: k)) cs w) b k cs e a' w' := by
    intro d
    induction d using Nat.strongRecOn with
    | _ d ih =>
      intro i a w hin hd hI
      obtain ⟨e, a₁, w₁, hq, harr⟩ := round i hin a w hI b (.inLoop c :: k) cs
      cases e with
      | normal =>
        obtain ⟨hlt, hI₁⟩ := hq
        obtain ⟨e₂, a₂, w₂, hq₂, harr₂⟩ := ih (n - (i + 1)) (by omega) (i + 1) a₁ w₁ (by omega) rfl hI₁
        exact ⟨e₂, a₂, w₂, hq₂, .of_steps (Steps.trans harr (.one step_inLoop)) harr₂⟩
      | exit id => exact ⟨_, a₁, w₁, hq, .pass (x := .inLoop c) rfl (fun _ _ => .inl (by simp)) harr⟩
      | goto l => exact ⟨_, a₁, w₁, hq, .pass (x := .inLoop c) rfl (fun _ _ => .inl (by simp)) harr⟩
      | ret => exact ⟨_, a₁, w₁, hq, .pass (x := .inLoop c) rfl (fun _ _ => .inl (by simp)) harr⟩
      | panic ch => exact ⟨_, a₁, w₁, hq, .pass (x := .inLoop c) rfl (fun _ _ => .inl (by simp)) harr⟩
      | outgrown => exact ⟨_, a₁, w₁, hq, .pass (x := .inLoop c) rfl (fun _ _ => .inl (by simp)) harr⟩
  obtain ⟨e, a', w', hq, harr⟩ := key _ 0 a w (Nat.zero_le _) rfl h₀
  exact ⟨e, a', w', hq, .of_steps (.one step_loop) harr⟩

theorem vc_sound (hfn : ∀ f, fnOk P (ρ f) = true) (hmo : P.follows .mixedOrders = true) (hm : H₀.length ≤ m) : ∀ {pc : PC} {c : Code} {σ : Nat → Nat} {a : Act} {w : World} {st : St} {Qp : Ex → St → Prop} {Q : Exit → Act → World → Prop},
    chkC P ρ N c pc = true → Inv ρ σ₀ H₀ w₀ N σ a w st → vc P ρ m pc st Qp → (∀ e st' σ' a' w', Qp e st' → Inv ρ σ₀ H₀ w₀ N σ' a' w' st' → Q e.ex a' w') → c.wp P Q a w := by
  intro pc
  induction pc with
  | skip =>
    intro c σ a w st Qp Q hc hi hv hq
    cases c <;> first | (simp [chkC] at hc; done) | skip
    exact wp_skip (hq .norm st σ a w hv hi)
  | ret =>
    intro c σ a w st Qp Q hc hi hv hq
    cases c <;> first | (simp [chkC] at hc; done) | skip
    exact wp_ret (hq .ret st σ a w hv hi)
  | exit id =>
    intro c σ a w st Qp Q hc hi hv hq
    cases c <;> first | (simp [chkC] at hc; done) | skip
    simp only [chkC, beq_iff_eq] at hc; subst hc
    exact wp_exit (hq (.exit _) st σ a w hv hi)
  | seq x y ihx ihy =>
    intro c σ a w st Qp Q hc hi hv hq
    cases c <;> first | (simp [chkC] at hc; done) | skip
    simp only [chkC, Bool.and_eq_true] at hc
    refine wp_seq (ihx hc.1 hi hv ?_)
    intro e st' σ' a' w' hQ hi'
    cases e with
    | norm => exact ihy hc.2 hi' hQ hq
    | exit id => exact hq (.exit id) st' σ' a' w' hQ hi'
    | ret => exact hq .ret st' σ' a' w' hQ hi'
  | cond x a' b' iha ihb =>
    intro c σ a w st Qp Q hc hi hv hq
    cases c <;> first | (simp [chkC] at hc; done) | skip
    simp only [chkC, Bool.and_eq_true] at hc
    obtain ⟨⟨h1, h2⟩, h3⟩ := hc
    obtain ⟨fr, hp⟩ := st
    change kCond x a' b' (vc P ρ m a') (vc P ρ m b') ⟨fr, hp⟩ Qp at hv
    simp only [kCond] at hv
    split at hv
    · rename_i b he
      replace hv := brB_elim hv
      obtain ⟨e1, -⟩ := chkAr_sound h1 hi.f he
      cases b
      · exact wp_cond_false e1 (ihb h3 hi hv hq)
      · exact wp_cond_true e1 (iha h2 hi hv hq)
    · exact hv.elim
  | blk id c' ih =>
    intro c σ a w st Qp Q hc hi hv hq
    cases c <;> first | (simp [chkC] at hc; done) | skip
    simp only [chkC, Bool.and_eq_true, beq_iff_eq] at hc
    obtain ⟨rfl, hc⟩ := hc
    refine wp_block (ih hc hi hv ?_)
    intro e st' σ' a' w' hQ hi'
    cases e with
    | norm => exact hq .norm st' σ' a' w' hQ hi'
    | exit id' =>
      simp only [Ex.ex, Exit.inBlock]
      simp only at hQ
      split at hQ
      · rename_i hb
        have hb := Nat.eq_of_beq_eq_true hb
        rw [if_pos hb]
        exact hq .norm st' σ' a' w' hQ hi'
      · rename_i hb
        have hb := Nat.ne_of_beq_eq_false hb
        rw [if_neg hb]
        exact hq (.exit id') st' σ' a' w' hQ hi'
    | ret => exact hq .ret st' σ' a' w' hQ hi'
  | loop c' ih =>
    intro c σ a w st Qp Q hc hi hv hq
    cases c <;> first | (simp [chkC] at hc; done) | skip
    simp only [chkC] at hc
    rcases hv with ⟨I, F, n, hF, h0, hr⟩ | ⟨α, I, F, n, ⟨x0, hF, h0⟩, hr⟩
    · skip
      refine wp_loop_n (fun i a w => F i ∧ ∃ σ, Inv ρ σ₀ H₀ w₀ N σ a w (I i)) n ⟨hF, σ, hi.weak hm h0⟩ ?_
      rintro i hin a w ⟨hF, σ, hi⟩
      refine ih hc hi (hr i hin hF) ?_
      intro e st' σ' a' w' hQ hi'
      cases e with
      | norm => exact ⟨hQ.1, hQ.2.1, σ', hi'.weak hm hQ.2.2⟩
      | exit id => exact hq (.exit id) st' σ' a' w' hQ hi'
      | ret => exact hq .ret st' σ' a' w' hQ hi'
    · obtain ⟨σ1, hi1⟩ := hi.some hm h0
      refine wp_loop_n (fun i a w => ∃ x σ, F i x ∧ Inv ρ σ₀ H₀ w₀ N σ a w (I i x)) n ⟨x0, σ1, hF, hi1⟩ ?_
      rintro i hin a w ⟨x, σ, hF, hi⟩
      refine ih hc hi (hr i x hin hF) ?_
      intro e st' σ' a' w' hQ hi'
      cases e with
      | norm =>
        obtain ⟨hlt, y, hFy, hle⟩ := hQ
        obtain ⟨σ2, hi2⟩ := hi'.some hm hle
        exact ⟨hlt, y, σ2, hFy, hi2⟩
      | exit id => exact hq (.exit id) st' σ' a' w' hQ hi'
      | ret => exact hq .ret st' σ' a' w' hQ hi'
  | reg ps =>
    intro c σ a w st Qp Q hc hi hv hq
    cases c <;> first | (simp [chkC] at hc; done) | skip
    simp only [chkC, Bool.and_eq_true, Bool.not_eq_true'] at hc
    obtain ⟨rfl, hc⟩ := hc
    exact wp_region_list (reg_sound hfn hc hi hv fun st' σ' a' w' hQ hi' => hq .norm st' σ' a' w' hQ hi')
  | drw B es xs ns fs =>
    intro c σ a w st Qp Q hc hi hv hq
    cases c <;> first | (simp [chkC] at hc; done) | skip
    simp only [chkC, Bool.and_eq_true] at hc
    obtain ⟨rfl, hc⟩ := hc
    exact drw_sound hfn hmo hc hi hv fun st' σ' a' w' hQ hi' => hq .norm st' σ' a' w' hQ hi'

/-! ### functions -/
inductive PRes where
 | t (s : Nat)
 | c (s : Nat) (h n : Nat)
 | c1 (s : Nat)

structure PF where
 np : Nat
 nt : Nat
 res : List PRes
 body : PC

def mkS : List At → Sv
  | [a] => .one a
  | l => .tup l

def vres (st : St) : List PRes → (List At → Prop) → Prop
  | [], K => K []
  | .t s :: r, K => match lk st.fr s with
    | some (.one a) => vres st r fun l => K (a :: l)
    | _ => False
  | .c s h n :: r, K => match lk st.fr s with
    | some (.one (.pt k off)) => match st.hp[k]? with
      | some ⟨_, .by hd N f⟩ => match h with
        | 0 => (hd.length ≤ off ∧ off + n ≤ N) ∧ vres st r fun l => K (.ag [] n (sh f off) :: l)
        | _ + 1 => (off = 0 ∧ n ≤ N) ∧ vres st r fun l => K (.ag hd n f :: l)
      | _ => False
    | _ => False
  | .c1 s :: r, K => match lk st.fr s with
    | some (.one (.pt k off)) => match st.hp[k]? with
      | some ⟨_, .vr a⟩ => off = 0 ∧ vres st r fun l => K (a :: l)
      | _ => False
    | _ => False

def chkRes (P : Program) : List ResultVar → List PRes → Bool
  | .tmp t :: r, .t s :: r' => t == s && chkRes P r r'
  | .cell a t :: r, .c s _ n :: r' => a == s && aggT P t == some n && chkRes P r r'
  | .cell a t :: r, .c1 s :: r' => a == s && oneT P t && chkRes P r r'
  | [], [] => true
  | _, _ => false

def chkFn (P : Program) (ρ : Nat → FuncId) (f : Nat) (pf : PF) : Bool := match P.funcs[ρ f]? with
  | some fn => Nat.ble pf.np pf.nt && fn.ntmps == pf.nt && chkRes P fn.results.toList pf.res && match fn.body with
    | some c => chkC P ρ pf.nt c pf.body
    | none => false
  | none => false

def resOf (tm : Array Value) : ResultVar → Sem Value
  | .tmp t => pure (tm.getD t undef)
  | .cell p t => do loadVar t (← asAddr (tm.getD p undef))
theorem asAddr_ptr (x : Addr) : asAddr (.pointer (some x)) = pure x := rfl

theorem run_vres {w : World} {σ : Nat → Nat} {a : Act} {st : St} {N : Nat} (hi : Inv ρ σ₀ H₀ w₀ N σ a w st) : ∀ {rs : List ResultVar} {pr : List PRes} {K : List At → Prop}, chkRes P rs pr = true → vres st pr K →
    ∃ l : List At, ((rs.mapM (m := Sem) (resOf a.tmps)).run P w = .ok (l.map (ren ρ σ)) w) ∧ K l ∧ l.length = pr.length ∧ ∀ b ∈ l, b.lt st.hp.length = true
  | [], [], K, _, hv => ⟨[], rfl, hv, rfl, by simp⟩
  | .tmp t :: r, .t s :: r', K, hc, hv => by
    simp only [chkRes, Bool.and_eq_true, beq_iff_eq] at hc
    obtain ⟨rfl, hc⟩ := hc
    simp only [vres] at hv
    split at hv
    · rename_i b hb
      obtain ⟨l, h1, h2, h3, h4⟩ := run_vres hi hc hv
      have e := hi.f.val _ _ hb
      have hl := hi.f.clo _ _ hb
      refine ⟨b :: l, ?_, h2, by simp [h3], ?_⟩
      · rw [List.mapM_cons]
        simp only [resOf, Sem.run_bind, Sem.run_pure, Result.andThen_ok, h1, List.map_cons]
        simp [e, renS]
      · intro c hc
        rcases List.mem_cons.1 hc with rfl | hc
        · exact hl
        · exact h4 c hc
    · exact hv.elim
  | .cell p t :: r, .c s h n :: r', K, hc, hv => by
    simp only [chkRes, Bool.and_eq_true, beq_iff_eq] at hc
    obtain ⟨⟨rfl, ht⟩, hc⟩ := hc
    simp only [vres] at hv
    split at hv
    · rename_i k off hb
      have e := hi.f.val _ _ hb
      split at hv
      · rename_i rr hd M f hk
        obtain ⟨T, hT⟩ := blk_of hi.s.h hk
        have main : ∀ (v : At) (g : Nat → Value), v.lt st.hp.length = true → (loadVar t ⟨σ k, off, none⟩).run P w = .ok (ren ρ σ v) w → vres st r' (fun l => K (v :: l)) → ∃ l : List At, (((ResultVar.cell p t :: r).mapM (m := Sem) (resOf a.tmps)).run P w = .ok (l.map (ren ρ σ)) w) ∧ K l ∧ l.length = (PRes.c p h n :: r').length ∧ ∀ b ∈ l, b.lt st.hp.length = true := by
          intro v g hvl hrun hv
          obtain ⟨l, h1, h2, h3, h4⟩ := run_vres hi hc hv
          refine ⟨v :: l, ?_, h2, by simp [h3], ?_⟩
          · rw [List.mapM_cons]
            have e' : a.tmps.getD p undef = .pointer (some ⟨σ k, off, none⟩) := by simp [e, renS, ren]
            simp only [resOf, Sem.run_bind, e', asAddr_ptr, Sem.run_pure, Result.andThen_ok, hrun, h1, List.map_cons]
          · intro c hc
            rcases List.mem_cons.1 hc with rfl | hc
            · exact hvl
            · exact h4 c hc
        split at hv
        · obtain ⟨⟨b1, b2⟩, hv⟩ := hv
          refine main (.ag [] n (sh f off)) (fun _ => undef) rfl ?_ hv
          have := run_loadAgg (P := P) (off := off) (g := fun j => cel [] (sh f off) j) ht hT (fun j hj => by
            rw [cellsB_by, cellsOf_get _ _ _ _ (by omega), cel_by (by omega), cel_by (by simp)]; rfl)
          rw [this]; rfl
        · obtain ⟨⟨rfl, b2⟩, hv⟩ := hv
          refine main (.ag hd n f) (fun _ => undef) rfl ?_ hv
          have := run_loadAgg (P := P) (off := 0) (g := fun j => cel hd f j) ht hT (fun j hj => by
            rw [cellsB_by, Nat.zero_add, cellsOf_get _ _ _ _ (by omega)])
          rw [this]; rfl
      · exact hv.elim
    · exact hv.elim
  | .cell p t :: r, .c1 s :: r', K, hc, hv => by
    simp only [chkRes, Bool.and_eq_true, beq_iff_eq] at hc
    obtain ⟨⟨rfl, ht⟩, hc⟩ := hc
    simp only [vres] at hv
    split at hv
    · rename_i k off hb
      have e := hi.f.val _ _ hb
      split at hv
      · rename_i rr v hk
        obtain ⟨T, hT⟩ := blk_of hi.s.h hk
        obtain ⟨rfl, hv⟩ := hv
        obtain ⟨l, h1, h2, h3, h4⟩ := run_vres hi hc hv
        have hcl := hi.s.h.clo k _ hk
        simp only [Bk.lt, Bool.and_eq_true] at hcl
        refine ⟨v :: l, ?_, h2, by simp [h3], ?_⟩
        · rw [List.mapM_cons]
          have e' : a.tmps.getD p undef = .pointer (some ⟨σ k, 0, none⟩) := by simp [e, renS, ren]
          have := run_loadOne (P := P) (off := 0) (v := ren ρ σ v) ht hT (by simp [cellsB])
          simp only [resOf, Sem.run_bind, e', asAddr_ptr, Sem.run_pure, Result.andThen_ok, this, h1, List.map_cons]
        · intro c hc
          rcases List.mem_cons.1 hc with rfl | hc
          · exact hcl.1
          · exact h4 c hc
      · exact hv.elim
    · exact hv.elim
  | [], _ :: _, _, hc, _ => by simp [chkRes] at hc
  | .tmp _ :: _, [], _, hc, _ => by simp [chkRes] at hc
  | .cell _ _ :: _, [], _, hc, _ => by simp [chkRes] at hc
  | .tmp _ :: _, .c _ _ _ :: _, _, hc, _ => by simp [chkRes] at hc
  | .tmp _ :: _, .c1 _ :: _, _, hc, _ => by simp [chkRes] at hc
  | .cell _ _ :: _, .t _ :: _, _, hc, _ => by simp [chkRes] at hc

/-- what a call hands over: v and H', chosen out of what stands at the end -/
def fin (m : Nat) (st : St) (r v : Sv) (H' : List Blk) : Prop := ∃ ps : List Nat, r = mvs (pk m ps) v ∧ v.lt H'.length = true ∧ sel (pk m ps) st.hp (List.range m ++ ps) H' ∧ pickOk m ps = true ∧ H'.all (fun B => B.c.lt H'.length) = true

def isEnd : Ex → Bool
  | .norm => true
  | .ret => true
  | .exit _ => false

def entry (as : List At) : List (Nat × Sv) := (as.zipIdx).map fun p => (p.2, .one p.1)

def ents : Nat → List At → List (Nat × Sv)
  | _, [] => []
  | k, a :: r => (k, .one a) :: ents (k + 1) r

theorem ents_lk : ∀ {as : List At} {k s : Nat} {v : Sv}, lk (ents k as) s = some v → ∃ a, as[s - k]? = some a ∧ k ≤ s ∧ v = .one a
  | [], k, s, v, h => by simp [ents, lk] at h
  | a :: r, k, s, v, h => by
    simp only [ents, lk] at h
    split at h
    · rename_i e; subst e; cases h
      exact ⟨a, by simp, Nat.le_refl _, rfl⟩
    · obtain ⟨b, h1, h2, h3⟩ := ents_lk h
      refine ⟨b, ?_, by omega, h3⟩
      have : s - k = (s - (k + 1)) + 1 := by omega
      rw [this, List.getElem?_cons_succ]; exact h1

theorem call_of_vcG {f : Nat} {pf : PF} {as : List At} {H : List Blk} {Rq : Sv → List Blk → Prop} {Kf : St → List At → Prop} (hKf : ∀ st' l, Kf st' l → ∃ v H', Rq v H' ∧ fin H.length st' (mkS l) v H') (hfn : ∀ f, fnOk P (ρ f) = true) (hmo : P.follows .mixedOrders = true) (hc : chkFn P ρ f pf = true)
    (hn : as.length = pf.np) (hl : as.all (fun a => a.lt H.length) = true)
    (hv : vc P ρ H.length pf.body ⟨ents 0 as, H⟩ fun e st' => isEnd e = true ∧ vres st' pf.res (Kf st')) : CallR P ρ f as H Rq := by
  intro σ w hh
  unfold chkFn at hc
  split at hc
  · rename_i fn hf
    simp only [Bool.and_eq_true, beq_iff_eq] at hc
    obtain ⟨⟨⟨h1, h2⟩, h3⟩, h4⟩ := hc
    have h1 := Nat.le_of_ble_eq_true h1
    split at h4
    · rename_i c hb
      rw [List.all_eq_true] at hl
      refine calls_of_wp hf hb ?_
      have hsz : ((as.map (ren ρ σ)).toArray ++ Array.replicate (fn.ntmps - (as.map (ren ρ σ)).toArray.size) undef).size = pf.nt := by simp; omega
      have hi : Inv ρ σ H w pf.nt σ { tmps := (as.map (ren ρ σ)).toArray ++ Array.replicate (fn.ntmps - (as.map (ren ρ σ)).toArray.size) undef, defers := [] } w ⟨ents 0 as, H⟩ := by
        refine ⟨⟨?_, ?_⟩, Sp.refl hh, hsz, rfl⟩
        · intro s u hu
          obtain ⟨a, e1, -, rfl⟩ := ents_lk hu
          rw [Nat.sub_zero] at e1
          have hs := (List.getElem?_eq_some_iff.1 e1).1
          simp only
          rw [Array.getElem?_append_left (by simpa using hs)]
          simp [e1, renS]
        · intro s u hu
          obtain ⟨a, e1, -, rfl⟩ := ents_lk hu
          exact hl a (List.mem_of_getElem? e1)
      refine vc_sound hfn hmo (Nat.le_refl _) h4 hi hv ?_
      rintro e st' σ' a' w' ⟨he, hr⟩ hi'
      obtain ⟨l, r1, r2, r3, r4⟩ := run_vres (P := P) hi' h3 hr
      obtain ⟨v, H', hRq, ps, q1, q2, q3, q4, q5⟩ := hKf _ _ r2
      have hres : (results fn a'.tmps).run P w' = .ok (renS ρ σ' (mkS l)) w' := by
        have hdef : results fn a'.tmps = (do
            let vs ← fn.results.mapM (resOf a'.tmps)
            pure (if h : vs.size = 1 then vs[0] else .tuple vs)) := rfl
        rw [hdef]
        have : (fn.results.mapM (m := Sem) (resOf a'.tmps)).run P w' = .ok (l.map (ren ρ σ')).toArray w' := by
          rw [Array.mapM_eq_mapM_toList, Sem.run_map, r1]; rfl
        rw [Sem.run_bind, this]
        simp only [Result.andThen_ok, Sem.run_pure]
        congr 1
        match l with
        | [] => rfl
        | [x] => rfl
        | x :: y :: r => simp [mkS, renS]
      have hfin : (fun e w' => ∃ v H' σ', Rq v H' ∧ e = Ending.returned (renS ρ σ' v) ∧ Sp ρ σ H w σ' H' w' ∧ v.lt H'.length = true) (.returned (renS ρ σ' (mkS l))) w' := by
        simp only [pickOk, Bool.and_eq_true, List.all_eq_true] at q4
        obtain ⟨p1, p2⟩ := q4
        have p2 := nodupB_spec p2
        have hlen := sel_len q3
        simp only [List.length_append, List.length_range] at hlen
        have hpk : ∀ j B, H'[j]? = some B → st'.hp[pk H.length ps j]? = some ⟨B.ro, mvb (pk H.length ps) B.c⟩ := by
          intro j B hB
          obtain ⟨t, e1, e2⟩ := sel_get q3 hB
          have : pk H.length ps j = t := by unfold pk; rw [e1]
          rw [this]; exact e2
        have hlo : ∀ j, j < H.length → pk H.length ps j = j := by
          intro j hj
          unfold pk
          rw [List.getElem?_append_left (by simpa using hj), List.getElem?_range hj]
        have hhi : ∀ j, H.length ≤ j → j < H'.length → ∃ t, ps[j - H.length]? = some t ∧ pk H.length ps j = t ∧ H.length ≤ t := by
          intro j h1 h2
          have : j - H.length < ps.length := by omega
          refine ⟨ps[j - H.length], List.getElem?_eq_getElem this, ?_, Nat.le_of_ble_eq_true (p1 _ (List.getElem_mem this))⟩
          unfold pk
          rw [List.getElem?_append_right (by simpa using h1), List.length_range, List.getElem?_eq_getElem this]
        have hinj : ∀ i j, i < H'.length → j < H'.length → i ≠ j → pk H.length ps i ≠ pk H.length ps j := by
          intro i j hi hj hij
          by_cases h1 : i < H.length <;> by_cases h2 : j < H.length
          · rw [hlo i h1, hlo j h2]; exact hij
          · obtain ⟨t, -, e2, e3⟩ := hhi j (by omega) hj
            rw [hlo i h1, e2]; omega
          · obtain ⟨t, -, e2, e3⟩ := hhi i (by omega) hi
            rw [hlo j h2, e2]; omega
          · obtain ⟨t, e1, e2, e3⟩ := hhi i (by omega) hi
            obtain ⟨t', e1', e2', e3'⟩ := hhi j (by omega) hj
            rw [e2, e2']
            intro e
            subst e
            have := nodup_get p2 e1 e1'
            omega
        have hq5 := List.all_eq_true.1 q5
        refine ⟨v, H', fun j => σ' (pk H.length ps j), hRq, ?_, ⟨⟨?_, ?_, ?_⟩, hi'.s.k, by omega, ?_, ?_, ?_⟩, q2⟩
        · rw [q1, renS_mvs]
        · intro k B hB
          obtain ⟨T, e⟩ := hi'.s.h.at_ _ _ (hpk k B hB)
          exact ⟨T, by rw [e, cellsB_mvb, frz_mvb]⟩
        · intro j k B hjk hk hB hro
          have hj := (List.getElem?_eq_some_iff.1 hB).1
          have hk' : pk H.length ps k < st'.hp.length := by
            obtain ⟨B', hB'⟩ : ∃ B', H'[k]? = some B' := ⟨_, List.getElem?_eq_getElem hk⟩
            exact (List.getElem?_eq_some_iff.1 (hpk k B' hB')).1
          exact hi'.s.h.sep _ _ _ (hinj j k hj hk hjk) hk' (hpk j B hB) hro
        · intro k B hB
          exact hq5 B (List.mem_of_getElem? hB)
        · intro k hk
          show σ' (pk H.length ps k) = σ k
          rw [hlo k hk]; exact hi'.s.same k hk
        · intro k B B' e e'
          have hk := (List.getElem?_eq_some_iff.1 e).1
          have := hpk k B' e'
          rw [hlo k hk] at this
          have h5 := hi'.s.rof k B _ e this
          exact h5
        · intro k h1 h2
          obtain ⟨t, e1, e2, e3⟩ := hhi k h1 h2
          show w.heap.size ≤ σ' (pk H.length ps k)
          rw [e2]
          have hk' : t < st'.hp.length := by
            obtain ⟨B', hB'⟩ : ∃ B', H'[k]? = some B' := ⟨_, List.getElem?_eq_getElem h2⟩
            have := (List.getElem?_eq_some_iff.1 (hpk k B' hB')).1
            rw [e2] at this; exact this
          exact hi'.s.fresh t e3 hk'
      cases e with
      | norm => exact ⟨hi'.df, _, hres, hfin⟩
      | ret => exact ⟨hi'.df, _, hres, hfin⟩
      | exit id => cases he
    · cases h4
  · cases hc

theorem CallR.ok {f : Nat} {as : List At} {H H' : List Blk} {v : Sv} (h : CallR P ρ f as H fun u G => u = v ∧ G = H') : CallOK P ρ f as H v H' := by
 intro σ w hh
 refine (h σ w hh).mono ?_
 rintro e w' ⟨_, _, σ', ⟨rfl, rfl⟩, he, sp, hl⟩
 exact ⟨σ', he, sp, hl⟩
theorem CallOK.r {f : Nat} {as : List At} {H H' : List Blk} {v : Sv} (h : CallOK P ρ f as H v H') : CallR P ρ f as H fun u G => u = v ∧ G = H' := by
 intro σ w hh
 refine (h σ w hh).mono ?_
 rintro e w' ⟨σ', he, sp, hl⟩
 exact ⟨v, H', σ', ⟨rfl, rfl⟩, he, sp, hl⟩
theorem call_of_vc {f : Nat} {pf : PF} {as : List At} {H H' : List Blk} {v : Sv} (hfn : ∀ f, fnOk P (ρ f) = true) (hmo : P.follows .mixedOrders = true) (hc : chkFn P ρ f pf = true)
  (hn : as.length = pf.np) (hl : as.all (fun a => a.lt H.length) = true)
  (hv : vc P ρ H.length pf.body ⟨ents 0 as, H⟩ fun e st' => isEnd e = true ∧ vres st' pf.res fun l => fin H.length st' (mkS l) v H') : CallOK P ρ f as H v H' :=
 CallR.ok (call_of_vcG (Kf := fun st' l => fin H.length st' (mkS l) v H') (fun _ _ h => ⟨v, H', ⟨rfl, rfl⟩, h⟩) hfn hmo hc hn hl hv)
end
end Hf
