/- From a contract to a row: what arguments look like, and what is left behind the call. -/
import Derived.Test.YtkkjaohppodccabGreatA
import Derived.WalkKit
import Derived.ProofKit
import Derived.OpenShut
import Derived.ShutString
import Derived.ChangeOld
import Derived.Below
import Derived.Carry
import Derived.Deep.Slices
import Derived.DataReads
set_option linter.unusedVariables false
set_option linter.unusedSimpArgs false

namespace Hf
open Go Go.RowKit

/-- the kinds of the cells from place i on: numbers of 64 bits up to place h, bytes from there on -/
def flatGo (P : Program) (h : Nat) : Nat → List TypeId → Bool
  | _, [] => true
  | i, u :: r => (match P.underlying u with
    | some (.int .i64) => decide (i < h)
    | some (.int .u8) => decide (h ≤ i)
    | _ => false) && flatGo P h (i + 1) r
theorem flatGo_at {P : Program} {h : Nat} : ∀ {ts : List TypeId} {i j : Nat} {u : TypeId}, flatGo P h i ts = true → ts[j]? = some u → (match P.underlying u with
    | some (.int .i64) => decide (i + j < h)
    | some (.int .u8) => decide (h ≤ i + j)
    | _ => false) = true
  | [], _, _, _, _, e => by simp at e
  | t :: r, i, 0, u, g, e => by
    simp at e; subst e
    simp only [flatGo, Bool.and_eq_true] at g
    exact g.1
  | t :: r, i, j + 1, u, g, e => by
    simp only [flatGo, Bool.and_eq_true] at g
    have := flatGo_at g.2 (j := j) (u := u) (by simpa using e)
    rw [show i + (j + 1) = i + 1 + j by omega]
    exact this
/-- a type whose values are h numbers of 64 bits and then bytes, n cells in all -/
def flatOk (P : Program) (t : TypeId) (h n : Nat) : Bool := match P.underlying t with
  | some (.struct _) | some (.array _ _) => decide (P.cellsOf t = n) && match P.cellTypes P.depth t with
    | some ts => decide (ts.length = n) && flatGo P h 0 ts
    | none => false
  | _ => false
theorem flatOk_is {P : Program} {t : TypeId} {h n : Nat} (hf : flatOk P t h n = true) : ((∃ fs, P.underlying t = some (.struct fs)) ∨ ∃ m e, P.underlying t = some (.array m e)) ∧ P.cellsOf t = n ∧ ∃ ts, P.cellTypes P.depth t = some ts ∧ ts.length = n ∧ flatGo P h 0 ts = true := by
  have key : (decide (P.cellsOf t = n) && match P.cellTypes P.depth t with
    | some ts => decide (ts.length = n) && flatGo P h 0 ts
    | none => false) = true → P.cellsOf t = n ∧ ∃ ts, P.cellTypes P.depth t = some ts ∧ ts.length = n ∧ flatGo P h 0 ts = true := by
    intro ht
    rw [Bool.and_eq_true] at ht
    obtain ⟨ht1, ht2⟩ := ht
    split at ht2
    · rename_i ts hts
      rw [Bool.and_eq_true] at ht2
      exact ⟨of_decide_eq_true ht1, ts, hts, of_decide_eq_true ht2.1, ht2.2⟩
    · cases ht2
  unfold flatOk at hf
  split at hf
  · rename_i fs hu; exact ⟨.inl ⟨fs, hu⟩, key hf⟩
  · rename_i m e hu; exact ⟨.inr ⟨m, e, hu⟩, key hf⟩
  · cases hf
theorem okWide_agg {P : Program} {W : World} {r : Reach} {b : Nat} {t : TypeId} {v : Value} (h : (∃ fs, P.underlying t = some (.struct fs)) ∨ ∃ m e, P.underlying t = some (.array m e)) :
    Value.okWide P W r b t v ↔ ∃ cs, v = .agg cs ∧ cs.size = P.cellsOf t ∧ Row.okWide P W r b t cs := by
  unfold Value.okWide
  rcases h with ⟨fs, hu⟩ | ⟨m, e, hu⟩ <;> simp only [hu]

def numOf : Option Value → Int
  | some (.int _ z) => z
  | _ => 0

theorem open_flat {P : Program} {W : World} {r : Reach} {b : Nat} {t : TypeId} {v : Value} {h n : Nat} (hf : flatOk P t h n = true) (hv : Value.okWide P W r b t v) :
    ∃ (hd : List Int) (f : By), hd.length = h ∧ v = .agg (cellsOf hd n f) := by
  obtain ⟨hs, h1, ts, h2, h3, h4⟩ := flatOk_is hf
  obtain ⟨cs, rfl, h5, ts', h6, -, h7⟩ := (okWide_agg hs).1 hv
  · rw [h2] at h6; cases h6
    refine ⟨(List.range h).map fun i => numOf cs[i]?, fun i => byt (numOf cs[i]?), by simp, ?_⟩
    congr 1
    apply Array.ext
    · rw [cellsOf_size, h5, h1]
    · intro i hi hi'
      rw [cellsOf_size] at hi'
      have e1 : cs[i]? = some cs[i] := by simp [hi]
      have e2 := cellsOf_get ((List.range h).map fun i => numOf cs[i]?) n (fun i => byt (numOf cs[i]?)) i hi'
      have e3 : (cellsOf ((List.range h).map fun i => numOf cs[i]?) n (fun i => byt (numOf cs[i]?)))[i]? = some (cellsOf ((List.range h).map fun i => numOf cs[i]?) n (fun i => byt (numOf cs[i]?)))[i] := by simp [cellsOf_size, hi']
      rw [e3] at e2
      have e4 := Option.some.inj e2
      rw [e4]
      obtain ⟨u, h8, h9⟩ := h7 i cs[i] e1
      rw [h3, Nat.mod_eq_of_lt hi'] at h8
      have h10 := flatGo_at h4 h8
      rw [Nat.zero_add] at h10
      by_cases hlt : i < h
      · have e5 : ((List.range h).map fun i => numOf cs[i]?)[i]? = some (numOf cs[i]?) := by simp [hlt]
        rw [cel_hd e5, e1]
        split at h10
        · rename_i hu
          generalize cs[i] = c at *
          cases c <;> simp [Cell.okWide, Cell.ok, hu] at h9
          obtain ⟨rfl, -⟩ := h9
          rfl
        · exact absurd (of_decide_eq_true h10) (by omega)
        · cases h10
      · have e5 : ((List.range h).map fun i => numOf cs[i]?).length ≤ i := by simp; omega
        rw [cel_by e5, e1]
        split at h10
        · exact absurd (of_decide_eq_true h10) (by omega)
        · rename_i hu
          generalize cs[i] = c at *
          cases c <;> simp [Cell.okWide, Cell.ok, hu] at h9
          obtain ⟨rfl, h11⟩ := h9
          rename_i z
          simp only [numOf]
          rw [byt_toNat]
          simp only [IntKind.has, IntKind.min, IntKind.max, IntKind.signed, IntKind.bits] at h11
          simp at h11
          rw [Int.emod_eq_of_lt h11.1 (by omega)]
        · cases h10
theorem flat_okWide {P : Program} {W : World} {r : Reach} {b : Nat} {t : TypeId} {h n : Nat} (hf : flatOk P t h n = true) {hd : List Int} {f : By} (hl : hd.length = h) (hz : ∀ z ∈ hd, -9223372036854775808 ≤ z ∧ z ≤ 9223372036854775807) :
    Value.okWide P W r b t (.agg (cellsOf hd n f)) := by
  obtain ⟨hs, h1, ts, h2, h3, h4⟩ := flatOk_is hf
  refine (okWide_agg hs).2 ⟨_, rfl, by rw [cellsOf_size, h1], ts, h2, ⟨1, by rw [cellsOf_size, h3, Nat.one_mul]⟩, ?_⟩
  intro i v hv
  have hi : i < n := by
    have := (Array.getElem?_eq_some_iff.1 hv).1
    rwa [cellsOf_size] at this
  rw [cellsOf_get hd n f i hi] at hv
  cases hv
  have hts : ts[i]? = some (ts[i]'(by omega)) := by simp [h3, hi]
  refine ⟨ts[i]'(by omega), (congrArg (fun q => ts[q]?) (Nat.mod_eq_of_lt (show i < ts.length by omega))).trans hts, ?_⟩
  have h10 := flatGo_at h4 hts
  rw [Nat.zero_add] at h10
  split at h10
  · rename_i hu
    have hlt : i < hd.length := by rw [hl]; exact of_decide_eq_true h10
    have e : hd[i]? = some hd[i] := by simp [hlt]
    rw [cel_hd e]
    have := hz hd[i] (List.getElem_mem hlt)
    simp [Cell.okWide, Cell.ok, hu, IntKind.has, IntKind.min, IntKind.max, IntKind.signed, IntKind.bits]
    omega
  · rename_i hu
    rw [cel_by (by rw [hl]; exact of_decide_eq_true h10)]
    have := toNat_le (f i)
    simp [Cell.okWide, Cell.ok, hu, IntKind.has, IntKind.min, IntKind.max, IntKind.signed, IntKind.bits]
    omega
  · cases h10

theorem okWide_num {P : Program} {w : World} {r : Reach} {b : Nat} {t : TypeId} {k : IntKind} (h : P.underlying t = some (.int k)) : Value.okWide P w r b t (.int k 0) := by
  simp only [Value.okWide, h, Cell.okWide, Cell.ok, IntKind.has]
  cases k <;> decide
theorem okWide_bool {P : Program} {w : World} {r : Reach} {b : Nat} {t : TypeId} {x : Bool} (h : P.underlying t = some .bool) : Value.okWide P w r b t (.bool x) := by
  simp only [Value.okWide, h, Cell.okWide, Cell.ok]
/-- the arguments fit, whatever the world -/
def ok2 (P : Program) : List TypeId → List Value → Prop
  | t :: ts, v :: vs => (∀ w b, Value.okWide P w .any b t v) ∧ ok2 P ts vs
  | [], [] => True
  | _, _ => False
theorem ok2_at {P : Program} {w : World} {b : Nat} : ∀ {ts : List TypeId} {vs : List Value} {j : Nat} {t : TypeId} {v : Value}, ok2 P ts vs → ts[j]? = some t → vs[j]? = some v → Value.okWide P w .any b t v
  | t :: ts, v :: vs, 0, _, _, h, e1, e2 => by
    simp at e1 e2; subst e1; subst e2; exact h.1 _ _
  | t :: ts, v :: vs, j + 1, _, _, h, e1, e2 => ok2_at h.2 (by simpa using e1) (by simpa using e2)
  | [], _, _, _, _, _, e1, _ => by simp at e1
  | _ :: _, [], _, _, _, h, _, _ => h.elim

/-- all zero -/
def zeros (h n : Nat) : Array Value := cellsOf (List.replicate h 0) n fun _ => 0
theorem ok2_agg {P : Program} {t : TypeId} {h n : Nat} {ts : List TypeId} {vs : List Value} (hf : flatOk P t h n = true) (hr : ok2 P ts vs) : ok2 P (t :: ts) (.agg (zeros h n) :: vs) :=
  ⟨fun _ _ => flat_okWide hf (by simp) (fun z hz => by rw [List.eq_of_mem_replicate hz]; omega), hr⟩
theorem ok2_num {P : Program} {t : TypeId} {k : IntKind} {ts : List TypeId} {vs : List Value} (h : P.underlying t = some (.int k)) (hr : ok2 P ts vs) : ok2 P (t :: ts) (.int k 0 :: vs) := ⟨fun _ _ => okWide_num h, hr⟩
theorem ok2_bool {P : Program} {t : TypeId} {ts : List TypeId} {vs : List Value} (h : P.underlying t = some .bool) (hr : ok2 P ts vs) : ok2 P (t :: ts) (.bool false :: vs) := ⟨fun _ _ => okWide_bool h, hr⟩
theorem ok2_nil {P : Program} : ok2 P [] [] := trivial
/-- one input that the row speaks of -/
theorem witness_of {H : Type} {enc : TypeId × Value → H} {C : Checked} {os : Os} {f : FuncId} {fn : Func} {s : ChangeSpec} {conds : List PathCond} {apart : Bool} (modest : Bool) (args : Array Value) (fuel : Nat)
    (hv : (World.plainHolding C.prog os ⟨#[], args, []⟩).variablesB C.prog = true)
    (hr : ((World.plainHolding C.prog os ⟨#[], args, []⟩).heap.toList.drop C.prog.globals.size).take ((begin C.prog (fun _ _ => 0) default).world.heap.size - C.prog.globals.size) =
      (begin C.prog (fun _ _ => 0) default).world.heap.toList.drop C.prog.globals.size)
    (hin : C.prog.inits.idxOf? f = none) (hfn : C.prog.funcs[f]? = some fn) (hfl : (fn.body.isSome && !fn.ours && fn.nfree == 0 && args.size == fn.params.size) = true)
    (hok : ok2 C.prog fn.params.toList args.toList)
    (hpre : s.preB enc C.prog fn conds apart (World.plainHolding C.prog os ⟨#[], args, []⟩).memory args fuel = true)
    (hsz : s.sizedB enc C.prog fn apart (World.plainHolding C.prog os ⟨#[], args, []⟩).memory args fuel = true) :
    ∃ (w : World) (tape : Tape) (i : Input), w.os = os ∧ (w.forCall tape i).Shaped C.prog ∧ i.vars = [] ∧ Input.okWide C.prog (w.forCall tape i) .any w.heap.size f i ∧
      s.pre6 enc C.prog fn conds apart (w.forCall tape i).memory i.args ∧ ({ modest := modest } : Assume).holds C.prog (lone (Frame.enter C.prog f i.args .normal) [] (w.forCall tape i)) := by
  simp only [Bool.and_eq_true, beq_iff_eq, Bool.not_eq_true'] at hfl
  obtain ⟨⟨⟨g1, g2⟩, g3⟩, g4⟩ := hfl
  refine ⟨World.holding C.prog os ⟨#[], args, []⟩, fun _ _ => 0, ⟨#[], args, []⟩, rfl, World.shaped_of_B hv hr, rfl, ⟨by simp, by simp, hin, fn, hfn, g1, g2, g3, g4, ?_⟩, ⟨ChangeSpec.pre_of_preB hpre, sizedMet_of_sizedB hsz⟩, ?_⟩
  · intro j t v h1 h2
    exact ok2_at hok (by simpa using h1) (by simpa using h2)
  · simp only [Assume.holds]
    exact ⟨by simp, by simp, fun _ => Modest.zero, by simp, by simp⟩

theorem hrel_nil {ρ : Nat → FuncId} {σ : Nat → Nat} {w : World} : HRel ρ σ w [] := ⟨fun k B h => by simp at h, fun j k B _ h => by simp at h, fun k B h => by simp at h⟩
theorem Kp.below {σ : Nat → Nat} {w w' : World} (h : Kp σ [] w w') : Below w.heap.size w w' := ⟨h.os, h.tape, h.output, h.size, fun k hk => h.old k hk fun k B e => by simp at e⟩

/-- a law's contract, as its row asks for it -/
theorem law_calls {P : Program} {ρ : Nat → FuncId} {f : Nat} {as : List At} (h : CallOK P ρ f as [] (.one (.b true)) []) (w : World) :
    Calls P (ρ f) (as.map (ren ρ (fun _ => 0))).toArray w fun e w' => e = .returned (.bool true) ∧ Below w.heap.size w w' :=
  (h (fun _ => 0) w hrel_nil).mono fun _ _ ⟨_, he, hs, _⟩ => ⟨he, hs.k.below⟩
theorem hrel_fo {ρ : Nat → FuncId} {W : World} {b : Nat} {C : Array Value} {T : TypeId} {fz : Nat × Nat} (hb : W.heap[b]? = some (.cells C T fz)) : HRel ρ (fun _ => b) W [⟨true, .fo C fz⟩] := by
  have one : ∀ (k : Nat) (B : Blk), [(⟨true, .fo C fz⟩ : Blk)][k]? = some B → B = ⟨true, .fo C fz⟩ := by
    intro k B h
    cases k with
    | zero => simp at h; exact h.symm
    | succ k => simp at h
  refine ⟨fun k B h => ?_, fun j k B _ _ h hr => ?_, fun k B h => ?_⟩
  · rw [one k B h]; exact ⟨T, hb⟩
  · rw [one j B h] at hr; cases hr
  · rw [one k B h]; rfl
/-- the same for a contract over blocks that are only read -/
theorem law_callsR {P : Program} {ρ : Nat → FuncId} {σ : Nat → Nat} {f : Nat} {al : List At} {H : List Blk} {W : World} (hh : HRel ρ σ W H) (hr : ∀ B ∈ H, B.ro = true) (h : CallR P ρ f al H fun u G => u = .one (.b true) ∧ G = H) :
    Calls P (ρ f) (al.map (ren ρ σ)).toArray W fun e w' => e = .returned (.bool true) ∧ Below W.heap.size W w' := by
  refine (h σ W hh).mono ?_
  rintro e w' ⟨v, H', σ', ⟨rfl, rfl⟩, he, hs, -⟩
  have k := hs.k
  exact ⟨he, k.os, k.tape, k.output, k.size, fun b hb => k.old b hb fun j B e hro => by
    rw [hr B (List.mem_of_getElem? e)] at hro; cases hro⟩
theorem ok2_snil {P : Program} {t e : TypeId} {ts : List TypeId} {vs : List Value} (h : P.underlying t = some (.slice e)) (hr : ok2 P ts vs) : ok2 P (t :: ts) (.slice none 0 0 :: vs) :=
  ⟨fun _ _ => by simp only [Value.okWide, h, Cell.okWide, Cell.ok], hr⟩
/-- a list of vectors, as an input brings it along -/
theorem open_vecs {H : Type} {enc : TypeId × Value → H} {P : Program} {W : World} {base : Nat} {t e u : TypeId} {v : Value} {d : DataW H} {ps : List MemPlace} (ht : P.underlying t = some (.slice e)) (he : P.underlying e = some (.array 8 u)) (hu : P.underlying u = some (.int .u8)) (hc : P.cellsOf e = 8) (hcu : P.cellsOf u = 1)
    (hval : Value.okWide P W .any base t v) (hd : DataW.Trod enc P W 0 (fun _ => true) true t v d ps) :
    v = .slice none 0 0 ∨ ∃ (b off len cap : Nat) (C : Array Value) (T : TypeId) (fz : Nat × Nat) (L : List By), v = .slice (some ⟨b, off, none⟩) len cap ∧ W.heap[b]? = some (.cells C T fz) ∧ L.length = len ∧ len ≤ 9223372036854775807 ∧ (∀ v ∈ L, ∀ x, 8 ≤ x → v x = 0) ∧
      ∀ i x, i < L.length → x < 8 → C[off + i * 8 + x]? = some (.int .u8 ((((L.getD i fun _ => 0) x).toNat : Nat) : Int)) := by
  obtain ⟨a0, len, cap, rfl⟩ := Go.WideShapes.okWide_slice ht hval
  obtain ⟨fuel, hd⟩ := hd
  rcases Go.Deep.open_slice ht hd with ⟨h0, -⟩ | ⟨a, len', cap', m, n, D, Pl, hcs, -, h1, h2, h3, -, h5⟩
  · left
    simp only [Value.cells] at h0
    simpa using h0
  · right
    have hcs : a0 = some a ∧ len = len' ∧ cap = cap' := by
      simp only [Value.cells] at hcs
      simpa using hcs
    obtain ⟨rfl, rfl, rfl⟩ := hcs
    simp only [if_true] at h3
    simp only [Value.okWide, ht, Cell.okWide, Cell.ok, World.has] at hval
    obtain ⟨-, -, -, hsp, row, cells, hsh, -⟩ := hval
    obtain ⟨b, off, spot⟩ := a
    obtain rfl : spot = none := hsp
    have hblk : ∃ C T fz, W.heap[b]? = some (.cells C T fz) := by
      simp only [World.shape?] at hsh
      split at hsh
      · rename_i c el fz he; exact ⟨c, el, fz, he⟩
      · cases hsh
    obtain ⟨C, T, fz, hC⟩ := hblk
    have key : ∀ i, i < len → ∀ x, x < 8 → ∃ y : UInt8, C[off + i * 8 + x]? = some (.int .u8 ((y.toNat : Nat) : Int)) := by
      intro i hi x hx
      obtain ⟨cs', q1, q2⟩ := h5 i (by omega)
      rw [hc] at q1
      obtain ⟨-, q3, q4⟩ := World.cells?_some q1
      obtain ⟨xs, m', -, -, q5, q6, q7⟩ := DataW.trod_array he q2
      have q8 := q7 x hx
      rw [hcu, Nat.mul_one] at q8
      obtain ⟨y, hy⟩ : ∃ y, xs[x]? = some y := ⟨xs[x]'(by omega), List.getElem?_eq_getElem (by omega)⟩
      rw [hy] at q8
      obtain ⟨z, q9, -, q10⟩ := DataW.trod_int hu q8
      have q11 := q4 x hx
      rw [add_mk, add_mk, cell_blk hC] at q11
      have q12 : cs'[x]? = some (.int .u8 z) := by
        have e1 : ((cs'.drop x).take 1)[0]? = cs'[x]? := by simp
        rw [← e1, q9]; rfl
      rw [q12] at q11
      have q13 : 0 ≤ z ∧ z ≤ 255 := by
        simp [Lit.wf, IntKind.min, IntKind.max, IntKind.signed, IntKind.bits] at q10
        omega
      refine ⟨byt z, ?_⟩
      rw [q11, byt_toNat, Int.emod_eq_of_lt q13.1 (by omega)]
    have hcx : (cap : Int) ≤ 9223372036854775807 := by
      have : cap ≤ maxLen := h2
      unfold maxLen at this
      omega
    classical
    have hex : ∀ i x, ∃ y : UInt8, i < len → x < 8 → C[off + i * 8 + x]? = some (.int .u8 ((y.toNat : Nat) : Int)) := fun i x => by
      by_cases h : i < len ∧ x < 8
      · obtain ⟨y, hy⟩ := key i h.1 x h.2; exact ⟨y, fun _ _ => hy⟩
      · exact ⟨0, fun h1 h2 => (h ⟨h1, h2⟩).elim⟩
    refine ⟨b, off, len, cap, C, T, fz, (List.range len).map fun i => fun x => if x < 8 then Classical.choose (hex i x) else 0, rfl, hC, by simp, by omega, ?_, ?_⟩
    · intro v hv x hx
      obtain ⟨i, -, rfl⟩ := List.mem_map.1 hv
      exact if_neg (by omega)
    · intro i x hi hx
      have hi : i < len := by simpa using hi
      have e : ((List.range len).map fun i => fun x => if x < 8 then Classical.choose (hex i x) else (0 : UInt8)).getD i (fun _ => 0) = fun x => if x < 8 then Classical.choose (hex i x) else 0 := by
        simp [List.getD_eq_getElem?_getD, hi]
      rw [e]
      dsimp only
      rw [if_pos hx]
      exact Classical.choose_spec (hex i x) hi hx
/-- an argument that is a slice of bytes -/
theorem open_bytes {H : Type} {enc : TypeId × Value → H} {P : Program} {W : World} {base : Nat} {t e : TypeId} {v : Value} {d : DataW H} {ps : List MemPlace} (ht : P.underlying t = some (.slice e)) (he : P.underlying e = some (.int .u8)) (hc : P.cellsOf e = 1)
    (hval : Value.okWide P W .any base t v) (hd : DataW.Trod enc P W 0 (fun _ => true) true t v d ps) :
    v = .slice none 0 0 ∨ ∃ (b off len cap : Nat) (C : Array Value) (T : TypeId) (fz : Nat × Nat), v = .slice (some ⟨b, off, none⟩) len cap ∧ W.heap[b]? = some (.cells C T fz) ∧ len ≤ 9223372036854775807 ∧
      ∀ y, y < len → ∃ u : UInt8, C[off + y]? = some (.int .u8 (u.toNat : Int)) := by
  obtain ⟨a0, len, cap, rfl⟩ := Go.WideShapes.okWide_slice ht hval
  obtain ⟨fuel, hd⟩ := hd
  rcases Go.Deep.open_slice ht hd with ⟨h0, -⟩ | ⟨a, len', cap', m, n, D, Pl, hcs, -, h1, h2, h3, -, h5⟩
  · left
    simp only [Value.cells] at h0
    simpa using h0
  · right
    have hcs : a0 = some a ∧ len = len' ∧ cap = cap' := by
      simp only [Value.cells] at hcs
      simpa using hcs
    obtain ⟨rfl, rfl, rfl⟩ := hcs
    simp only [if_true] at h3
    simp only [Value.okWide, ht, Cell.okWide, Cell.ok, World.has] at hval
    obtain ⟨-, -, -, hsp, row, cells, hsh, -⟩ := hval
    obtain ⟨b, off, spot⟩ := a
    obtain rfl : spot = none := hsp
    have hblk : ∃ C T fz, W.heap[b]? = some (.cells C T fz) := by
      simp only [World.shape?] at hsh
      split at hsh
      · rename_i c el fz he; exact ⟨c, el, fz, he⟩
      · cases hsh
    obtain ⟨C, T, fz, hC⟩ := hblk
    have hcx : (cap : Int) ≤ 9223372036854775807 := by
      have : cap ≤ maxLen := h2
      unfold maxLen at this
      omega
    refine ⟨b, off, len, cap, C, T, fz, rfl, hC, by omega, fun y hy => ?_⟩
    obtain ⟨cs', q1, q2⟩ := h5 y (by omega)
    rw [hc] at q1
    obtain ⟨-, q3, q4⟩ := World.cells?_some q1
    obtain ⟨z, q9, -, q10⟩ := DataW.trod_int he q2
    have q11 := q4 0 (by omega)
    rw [add_mk, add_mk, cell_blk hC, Nat.mul_one, Nat.add_zero] at q11
    have q13 : 0 ≤ z ∧ z ≤ 255 := by
      simp [Lit.wf, IntKind.min, IntKind.max, IntKind.signed, IntKind.bits] at q10
      omega
    refine ⟨byt z, ?_⟩
    rw [q11, q9, byt_toNat, Int.emod_eq_of_lt q13.1 (by omega)]
    rfl
end Hf
namespace Hf
theorem len0 {l : List Int} (h : l.length = 0) : l = [] := List.length_eq_zero_iff.1 h
theorem len1 {l : List Int} (h : l.length = 1) : ∃ a, l = [a] := by
  cases l with
  | nil => cases h
  | cons a r => exact ⟨a, by rw [len0 (Nat.succ.inj h)]⟩
theorem len2 {l : List Int} (h : l.length = 2) : ∃ a b, l = [a, b] := by
  cases l with
  | nil => cases h
  | cons a r => obtain ⟨b, e⟩ := len1 (Nat.succ.inj h); exact ⟨a, b, by rw [e]⟩
end Hf
