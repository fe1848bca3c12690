/- The engine: a small language of states and its soundness. -/
import Derived.Calls
import Derived.Orders
import Derived.Tactics
import Derived.Laws.Sem
import Derived.Laws.Tables
import Derived.Laws.Cells
import Derived.Laws.CopyRow
import Derived.Laws.Entries
import Derived.Laws.Rows
set_option linter.unusedVariables false
set_option linter.unusedSimpArgs false
/- The engine, part 1: values of the abstract state, blocks, and how they stand for the model's own. -/
namespace Hf
open Go

/-- bytes, by their place -/
abbrev By := Nat → UInt8

/-- atoms -/
inductive At where
  | i (k : IntKind) (n : Int)
  | u (x : UInt8)
  | b (x : Bool)
  | ag (hd : List Int) (n : Nat) (f : By)
  | pt (k off : Nat)
  | np
  | sl (k off len cap : Nat)
  | sn
  | fn (f : Nat) (first caps : List (Nat × Nat))
  deriving Inhabited

/-- what a slot holds -/
inductive Sv where
  | one (a : At)
  | tup (l : List At)
  deriving Inhabited

/-- what a block holds -/
inductive Bk where
  | by (hd : List Int) (n : Nat) (f : By)
  | vr (a : At)
  | rw (l : List At)
  deriving Inhabited

structure Blk where
  ro : Bool
  c : Bk
  deriving Inhabited

/-- one cell: the first are numbers, the others bytes -/
def cel (hd : List Int) (f : By) (x : Nat) : Value :=
  match hd[x]? with
  | some z => .int .i64 z
  | none => .int .u8 ((f x).toNat : Int)

def cellsOf (hd : List Int) (n : Nat) (f : By) : Array Value := ((List.range n).map (cel hd f)).toArray

theorem cellsOf_size (hd : List Int) (n : Nat) (f : By) : (cellsOf hd n f).size = n := by simp [cellsOf]
theorem cellsOf_get (hd : List Int) (n : Nat) (f : By) (x : Nat) (h : x < n) : (cellsOf hd n f)[x]? = some (cel hd f x) := by
  simp [cellsOf, h]
theorem cel_hd {hd : List Int} {f : By} {x : Nat} {z : Int} (h : hd[x]? = some z) : cel hd f x = .int .i64 z := by simp [cel, h]
theorem cel_by {hd : List Int} {f : By} {x : Nat} (h : hd.length ≤ x) : cel hd f x = .int .u8 ((f x).toNat : Int) := by
  simp [cel, List.getElem?_eq_none h]

section
variable (ρ : Nat → FuncId) (σ : Nat → Nat)

def pv (p : Nat × Nat) : Value := .pointer (some ⟨σ p.1, p.2, none⟩)

def ren : At → Value
  | .i k n => .int k n
  | .u x => .int .u8 (x.toNat : Int)
  | .b x => .bool x
  | .ag hd n f => .agg (cellsOf hd n f)
  | .pt k off => .pointer (some ⟨σ k, off, none⟩)
  | .np => .pointer none
  | .sl k off len cap => .slice (some ⟨σ k, off, none⟩) len cap
  | .sn => .slice none 0 0
  | .fn f first caps => .func (.func (ρ f)) (first.map (pv σ)).toArray (caps.map (pv σ)).toArray

def renS : Sv → Value
  | .one a => ren ρ σ a
  | .tup l => .tuple (l.map (ren ρ σ)).toArray

def cellsB : Bk → Array Value
  | .by hd n f => cellsOf hd n f
  | .vr a => #[ren ρ σ a]
  | .rw l => (l.map (ren ρ σ)).toArray
end

/-- the blocks that are named lie below m -/
def At.lt (m : Nat) : At → Bool
  | .pt k _ => decide (k < m)
  | .sl k _ _ _ => decide (k < m)
  | .fn _ first caps => first.all (fun p => decide (p.1 < m)) && caps.all (fun p => decide (p.1 < m))
  | _ => true
def Sv.lt (m : Nat) : Sv → Bool
  | .one a => a.lt m
  | .tup l => l.all (·.lt m)
/-- an atom of one cell -/
def At.cell1 : At → Bool
  | .ag _ _ _ => false
  | _ => true
def Bk.lt (m : Nat) : Bk → Bool
  | .by _ _ _ => true
  | .vr a => a.lt m && a.cell1
  | .rw l => l.all (fun a => a.lt m && a.cell1)

theorem At.lt_mono {m m' : Nat} (h : m ≤ m') : ∀ {a : At}, a.lt m = true → a.lt m' = true
  | .pt k _, e => by simp [At.lt] at *; omega
  | .sl k _ _ _, e => by simp [At.lt] at *; omega
  | .fn _ first caps, e => by
    simp only [At.lt, Bool.and_eq_true, List.all_eq_true, decide_eq_true_eq] at *
    exact ⟨fun p hp => Nat.lt_of_lt_of_le (e.1 p hp) h, fun p hp => Nat.lt_of_lt_of_le (e.2 p hp) h⟩
  | .i _ _, _ | .u _, _ | .b _, _ | .ag _ _ _, _ | .np, _ | .sn, _ => rfl
theorem Sv.lt_mono {m m' : Nat} (h : m ≤ m') : ∀ {a : Sv}, a.lt m = true → a.lt m' = true
  | .one _, e => At.lt_mono h e
  | .tup l, e => by
    simp only [Sv.lt, List.all_eq_true] at *
    exact fun a ha => At.lt_mono h (e a ha)
theorem Bk.lt_mono {m m' : Nat} (h : m ≤ m') : ∀ {a : Bk}, a.lt m = true → a.lt m' = true
  | .by _ _ _, _ => rfl
  | .vr a, e => by simp only [Bk.lt, Bool.and_eq_true] at *; exact ⟨At.lt_mono h e.1, e.2⟩
  | .rw l, e => by
    simp only [Bk.lt, List.all_eq_true, Bool.and_eq_true] at *
    exact fun a ha => ⟨At.lt_mono h (e a ha).1, (e a ha).2⟩

section
variable {ρ : Nat → FuncId} {σ σ' : Nat → Nat} {m : Nat}
theorem ren_congr (h : ∀ k, k < m → σ' k = σ k) : ∀ {a : At}, a.lt m = true → ren ρ σ' a = ren ρ σ a
  | .pt k _, e => by simp [At.lt] at e; simp [ren, h k e]
  | .sl k _ _ _, e => by simp [At.lt] at e; simp [ren, h k e]
  | .fn _ first caps, e => by
    simp only [At.lt, Bool.and_eq_true, List.all_eq_true, decide_eq_true_eq] at e
    simp only [ren]
    have h1 : first.map (pv σ') = first.map (pv σ) := List.map_congr_left fun p hp => by simp [pv, h _ (e.1 p hp)]
    have h2 : caps.map (pv σ') = caps.map (pv σ) := List.map_congr_left fun p hp => by simp [pv, h _ (e.2 p hp)]
    rw [h1, h2]
  | .i _ _, _ | .u _, _ | .b _, _ | .ag _ _ _, _ | .np, _ | .sn, _ => rfl
theorem renS_congr (h : ∀ k, k < m → σ' k = σ k) : ∀ {a : Sv}, a.lt m = true → renS ρ σ' a = renS ρ σ a
  | .one _, e => ren_congr h e
  | .tup l, e => by
    simp only [Sv.lt, List.all_eq_true] at e
    simp only [renS]
    rw [List.map_congr_left fun a ha => ren_congr h (e a ha)]
theorem cellsB_congr (h : ∀ k, k < m → σ' k = σ k) : ∀ {a : Bk}, a.lt m = true → cellsB ρ σ' a = cellsB ρ σ a
  | .by _ _ _, _ => rfl
  | .vr a, e => by simp only [Bk.lt, Bool.and_eq_true] at e; simp only [cellsB]; rw [ren_congr h e.1]
  | .rw l, e => by
    simp only [Bk.lt, List.all_eq_true, Bool.and_eq_true] at e
    simp only [cellsB]
    rw [List.map_congr_left fun a ha => ren_congr h (e a ha).1]
end

/-- the first that stands for a slot -/
def lk : List (Nat × Sv) → Nat → Option Sv
  | [], _ => none
  | (s, v) :: r, t => if s = t then some v else lk r t

structure St where
  fr : List (Nat × Sv)
  hp : List Blk

/-! ### the abstract state and the model's -/
structure HRel (ρ : Nat → FuncId) (σ : Nat → Nat) (w : World) (H : List Blk) : Prop where
  at_ : ∀ (k : Nat) (B : Blk), H[k]? = some B → ∃ T, w.heap[σ k]? = some (.cells (cellsB ρ σ B.c) T (0, 0))
  sep : ∀ (j k : Nat) (B : Blk), j ≠ k → k < H.length → H[j]? = some B → B.ro = false → σ j ≠ σ k
  clo : ∀ (k : Nat) (B : Blk), H[k]? = some B → B.c.lt H.length = true

structure FRel (ρ : Nat → FuncId) (σ : Nat → Nat) (tm : Array Value) (fr : List (Nat × Sv)) (m : Nat) : Prop where
  val : ∀ s v, lk fr s = some v → tm[s]? = some (renS ρ σ v)
  clo : ∀ s v, lk fr s = some v → v.lt m = true

/-- what is kept of the world in which the call began -/
structure Kp (σ₀ : Nat → Nat) (H₀ : List Blk) (w₀ w : World) : Prop where
  os : w.os = w₀.os
  tape : w.tape = w₀.tape
  output : w.output = w₀.output
  size : w₀.heap.size ≤ w.heap.size
  old : ∀ b, b < w₀.heap.size → (∀ (k : Nat) (B : Blk), H₀[k]? = some B → B.ro = false → b ≠ σ₀ k) → w.heap[b]? = w₀.heap[b]?

/-- one step of the world: σ, H, w before; σ', H', w' behind -/
structure Sp (ρ : Nat → FuncId) (σ : Nat → Nat) (H : List Blk) (w : World) (σ' : Nat → Nat) (H' : List Blk) (w' : World) : Prop where
  h : HRel ρ σ' w' H'
  k : Kp σ H w w'
  len : H.length ≤ H'.length
  same : ∀ k, k < H.length → σ' k = σ k
  rof : ∀ (k : Nat) (B B' : Blk), H[k]? = some B → H'[k]? = some B' → B'.ro = B.ro
  fresh : ∀ k, H.length ≤ k → k < H'.length → w.heap.size ≤ σ' k

theorem HRel.lt {ρ : Nat → FuncId} {σ : Nat → Nat} {w : World} {H : List Blk} (h : HRel ρ σ w H) {k : Nat} (hk : k < H.length) : σ k < w.heap.size := by
  obtain ⟨T, e⟩ := h.at_ k H[k] (by simp [hk])
  exact (Array.getElem?_eq_some_iff.1 e).1

theorem Kp.refl (σ : Nat → Nat) (H : List Blk) (w : World) : Kp σ H w w := ⟨rfl, rfl, rfl, Nat.le_refl _, fun _ _ _ => rfl⟩

theorem Sp.refl {ρ : Nat → FuncId} {σ : Nat → Nat} {H : List Blk} {w : World} (h : HRel ρ σ w H) : Sp ρ σ H w σ H w :=
  ⟨h, Kp.refl _ _ _, Nat.le_refl _, fun _ _ => rfl, fun _ _ _ e e' => by rw [e] at e'; cases e'; rfl, fun _ h1 h2 => by omega⟩

theorem Sp.trans {ρ : Nat → FuncId} {σ σ1 σ2 : Nat → Nat} {H H1 H2 : List Blk} {w w1 w2 : World} (h1 : Sp ρ σ H w σ1 H1 w1) (h2 : Sp ρ σ1 H1 w1 σ2 H2 w2) : Sp ρ σ H w σ2 H2 w2 where
  h := h2.h
  k := {
    os := h2.k.os.trans h1.k.os
    tape := h2.k.tape.trans h1.k.tape
    output := h2.k.output.trans h1.k.output
    size := Nat.le_trans h1.k.size h2.k.size
    old := fun b hb hn => by
      rw [h2.k.old b (Nat.lt_of_lt_of_le hb h1.k.size) (fun k B hB hro => ?_)]
      · exact h1.k.old b hb hn
      · by_cases hk : k < H.length
        · rw [h1.same k hk]
          have e : H[k]? = some H[k] := by simp [hk]
          exact hn k _ e (by rw [← h1.rof k _ _ e hB]; exact hro)
        · have hlt : k < H1.length := (List.getElem?_eq_some_iff.1 hB).1
          have := h1.fresh k (by omega) hlt
          omega }
  len := Nat.le_trans h1.len h2.len
  same := fun k hk => (h2.same k (Nat.lt_of_lt_of_le hk h1.len)).trans (h1.same k hk)
  rof := fun k B B' e e' => by
    have hk : k < H.length := (List.getElem?_eq_some_iff.1 e).1
    have hk1 : k < H1.length := Nat.lt_of_lt_of_le hk h1.len
    have e1 : H1[k]? = some H1[k] := by simp [hk1]
    rw [h2.rof k _ _ e1 e', h1.rof k _ _ e e1]
  fresh := fun k hk hk' => by
    by_cases hk1 : k < H1.length
    · rw [h2.same k hk1]; exact h1.fresh k hk hk1
    · exact Nat.le_trans h1.k.size (h2.fresh k (by omega) hk')

/-- all of it. σ₀, H₀, w₀: as the call began -/
structure Inv (ρ : Nat → FuncId) (σ₀ : Nat → Nat) (H₀ : List Blk) (w₀ : World) (N : Nat) (σ : Nat → Nat) (a : Act) (w : World) (st : St) : Prop where
  f : FRel ρ σ a.tmps st.fr st.hp.length
  s : Sp ρ σ₀ H₀ w₀ σ st.hp w
  sz : a.tmps.size = N
  df : a.defers = []

/-! ### writing bytes -/
def sh (f : By) (o : Nat) : By := fun x => f (o + x)
def upd (f : By) (o : Nat) (v : UInt8) : By := fun x => if x = o then v else f x
def spl (f : By) (o n : Nat) (g : By) : By := fun x => if o ≤ x ∧ x < o + n then g (x - o) else f x

@[simp] theorem sh_app (f : By) (o x : Nat) : sh f o x = f (o + x) := rfl
theorem upd_same (f : By) (o : Nat) (v : UInt8) : upd f o v o = v := by simp [upd]
theorem upd_ne (f : By) (o x : Nat) (v : UInt8) (h : x ≠ o) : upd f o v x = f x := by simp [upd, h]

/-- the model's wrap, under a name of its own -/
def w64 (n : Int) : Int := IntKind.i64.wrap n
theorem w64_id (n : Int) (h0 : -9223372036854775808 ≤ n) (h1 : n ≤ 9223372036854775807) : w64 n = n := by
  simp only [w64, IntKind.wrap, IntKind.bits, IntKind.signed]
  simp
  omega
/-- a number as a byte -/
def byt (n : Int) : UInt8 := UInt8.ofNat (n % 256).toNat
theorem byt_toNat (n : Int) : ((byt n).toNat : Int) = n % 256 := by
  simp only [byt, UInt8.toNat_ofNat']
  have h0 : 0 ≤ n % 256 := Int.emod_nonneg _ (by decide)
  have h1 : n % 256 < 256 := Int.emod_lt_of_pos _ (by decide)
  have : (n % 256).toNat % 2 ^ 8 = (n % 256).toNat := Nat.mod_eq_of_lt (by omega)
  rw [this]
  omega
theorem wrap_u8 (n : Int) : IntKind.u8.wrap n = ((byt n).toNat : Int) := by
  rw [byt_toNat]
  simp [IntKind.wrap, IntKind.bits, IntKind.signed]
theorem toNat_le (x : UInt8) : x.toNat ≤ 255 := by have := x.toNat_lt; omega

end Hf
/- The engine, part 2: operations of the abstract state, and the check of an operation against the model's own. -/
namespace Hf
open Go

inductive Ar where
  | t (s : Nat)
  | c (a : At)
  deriving Inhabited

def ev (fr : List (Nat × Sv)) : Ar → Option Sv
  | .t s => lk fr s
  | .c a => some (.one a)

def evo (fr : List (Nat × Sv)) (d : Int) : Option Ar → Option Sv
  | none => some (.one (.i .i64 d))
  | some x => ev fr x

/-- what a new variable holds -/
inductive Zk where
  | by (h n : Nat)
  | i | u | b | np | sn
  deriving Inhabited
def Zk.bk : Zk → Bk
  | .by h n => .by (List.replicate h 0) n (fun _ => 0)
  | .i => .vr (.i .i64 0)
  | .u => .vr (.u 0)
  | .b => .vr (.b false)
  | .np => .vr .np
  | .sn => .vr .sn

inductive PO where
  | mov (x : Ar)
  | pick (c x y : Ar)
  | alo (z : Zk)
  | box (x : Ar)
  | bld (h n : Nat) (ps : List (Nat × Nat × Ar))
  | lda (x : Ar) (h n : Nat)
  | ld8 (x : Ar)
  | ld1 (x : Ar)
  | sta (x v : Ar) (n : Nat)
  | st8 (x v : Ar)
  | st1 (x v : Ar)
  | nck (x : Ar)
  | bin (op : BinOp) (x y : Ar)
  | nt (x : Ar)
  | eqa (neg : Bool) (n : Nat) (x y : Ar)
  | eqn (neg : Bool) (x : Ar)
  | cvt (k : IntKind) (x : Ar)
  | mkf (f : Nat) (first caps : List Ar)
  | add (x : Ar) (c : Nat)
  | idx (x i : Ar) (len esz : Nat)
  | ids (x i : Ar) (esz : Nat)
  | ixb (x i : Ar) (len : Nat)
  | ixa (x i : Ar) (len esz : Nat)
  | ext (x : Ar) (j : Nat)
  | call (f : Nat) (as : List Ar)
  | calv (x : Ar) (as : List Ar)
  | len (x : Ar)
  | slc (x : Ar) (lo hi : Option Ar) (esz : Nat)
  | bsa (xs : List Ar)
  | bsb (esz : Nat) (xs : List Ar)
  deriving Inhabited

/-! ### calls -/
def CallOK (P : Program) (ρ : Nat → FuncId) (f : Nat) (as : List At) (H : List Blk) (v : Sv) (H' : List Blk) : Prop :=
  ∀ (σ : Nat → Nat) (w : World), HRel ρ σ w H →
    Calls P (ρ f) (as.map (ren ρ σ)).toArray w fun e w' => ∃ σ', e = .returned (renS ρ σ' v) ∧ Sp ρ σ H w σ' H' w' ∧ v.lt H'.length = true

def mvp (T : Nat → Nat) (p : Nat × Nat) : Nat × Nat := (T p.1, p.2)
def mva (T : Nat → Nat) : At → At
  | .pt k off => .pt (T k) off
  | .sl k off len cap => .sl (T k) off len cap
  | .fn f first caps => .fn f (first.map (mvp T)) (caps.map (mvp T))
  | a => a
def mvs (T : Nat → Nat) : Sv → Sv
  | .one a => .one (mva T a)
  | .tup l => .tup (l.map (mva T))
def mvb (T : Nat → Nat) : Bk → Bk
  | .by hd n f => .by hd n f
  | .vr a => .vr (mva T a)
  | .rw l => .rw (l.map (mva T))

/-- the callee's numbers of blocks as the caller's -/
def tau (τ : List Nat) (m : Nat) (k : Nat) : Nat := match τ[k]? with
  | some t => t
  | none => m + (k - τ.length)

/-- the callee's blocks are the caller's -/
def emb (T : Nat → Nat) (H : List Blk) : List Nat → List Blk → Prop
  | t :: ts, B :: Bs => (∃ r, H[t]? = some ⟨r, mvb T B.c⟩ ∧ (B.ro = false → r = false)) ∧ emb T H ts Bs
  | [], [] => True
  | _, _ => False
/-- what may be written is met once -/
def apart : List Nat → List Blk → Bool
  | t :: ts, B :: Bs => (ts.zip Bs).all (fun p => (B.ro && p.2.ro) || p.1 != t) && apart ts Bs
  | _, _ => true
def back (T : Nat → Nat) : List Nat → List Blk → List Blk → List Blk → List Blk
  | t :: ts, B :: Bs, B' :: Bs', H => back T ts Bs Bs' (if B.ro then H else H.set t ⟨false, mvb T B'.c⟩)
  | _, _, _, H => H

def vcall (P : Program) (ρ : Nat → FuncId) (H : List Blk) (f : Nat) (args : List At) (K : Sv → List Blk → Prop) : Prop :=
  ∃ (m : Nat) (τ : List Nat) (as : List At) (Hc : List Blk) (v : Sv) (Hc' H' : List Blk), H.length = m ∧ CallOK P ρ f as Hc v Hc' ∧
    args = as.map (mva (tau τ m)) ∧ emb (tau τ m) H τ Hc ∧ apart τ Hc = true ∧
    back (tau τ m) τ Hc Hc' H ++ (Hc'.drop Hc.length).map (fun B => ⟨B.ro, mvb (tau τ m) B.c⟩) = H' ∧
    K (mvs (tau τ m) v) H'

/-! ### operations -/
def eqB (n : Nat) (f g : By) : Bool := (List.range n).all fun x => f x == g x

def vbin (op : BinOp) (K : Sv → Prop) : Option Sv → Option Sv → Prop
  | some (.one (.i .i64 m)), some (.one (.i .i64 n)) => match op with
    | .add => ∃ z, w64 (m + n) = z ∧ K (.one (.i .i64 z))
    | .sub => ∃ z, w64 (m - n) = z ∧ K (.one (.i .i64 z))
    | .mul => ∃ z, w64 (m * n) = z ∧ K (.one (.i .i64 z))
    | .quo => n ≠ 0 ∧ ∃ z, w64 (m.tdiv n) = z ∧ K (.one (.i .i64 z))
    | .rem => n ≠ 0 ∧ ∃ z, m.tmod n = z ∧ K (.one (.i .i64 z))
    | .eql => K (.one (.b (m == n)))
    | .neq => K (.one (.b (m != n)))
    | .lss => K (.one (.b (decide (m < n))))
    | .leq => K (.one (.b (decide (m ≤ n))))
    | .gtr => K (.one (.b (decide (m > n))))
    | .geq => K (.one (.b (decide (m ≥ n))))
    | _ => False
  | some (.one (.u x)), some (.one (.u y)) => match op with
    | .eql => K (.one (.b (x == y)))
    | .neq => K (.one (.b (x != y)))
    | _ => False
  | _, _ => False

def atoms : List (Option Sv) → Option (List At)
  | [] => some []
  | some (.one a) :: r => match atoms r with
    | some l => some (a :: l)
    | none => none
  | _ :: _ => none
def ptrs : List (Option Sv) → Option (List (Nat × Nat))
  | [] => some []
  | some (.one (.pt k o)) :: r => match ptrs r with
    | some l => some ((k, o) :: l)
    | none => none
  | _ :: _ => none

/-- a branch on a truth value -/
structure brB (b : Bool) (k : Bool → Prop) : Prop where
  t : b = true → k true
  f : b = false → k false
theorem brB_intro {b : Bool} {k : Bool → Prop} (ht : b = true → k true) (hf : b = false → k false) : brB b k := ⟨ht, hf⟩
theorem brB_elim {b : Bool} {k : Bool → Prop} (h : brB b k) : k b := by
  cases b
  · exact h.f rfl
  · exact h.t rfl
theorem brB_t {k : Bool → Prop} (h : k true) : brB true k := ⟨fun _ => h, nofun⟩
theorem brB_f {k : Bool → Prop} (h : k false) : brB false k := ⟨nofun, fun _ => h⟩

/-- parts laid into a value of h numbers and n cells in all -/
def lay (fr : List (Nat × Sv)) (K : Sv → Prop) (n : Nat) : List (Nat × Nat × Ar) → List Int → By → Prop
  | [], hd, f => K (.one (.ag hd n f))
  | (off, sz, x) :: r, hd, f => match ev fr x with
    | some (.one (.i .i64 z)) => match Nat.blt off hd.length && Nat.beq sz 1 with
      | true => lay fr K n r (hd.set off z) f
      | false => False
    | some (.one (.u v)) => match Nat.ble hd.length off && Nat.blt off n && Nat.beq sz 1 with
      | true => lay fr K n r hd (upd f off v)
      | false => False
    | some (.one (.ag [] m g)) => match Nat.ble hd.length off && Nat.ble (off + m) n && Nat.beq sz m with
      | true => lay fr K n r hd (spl f off m g)
      | false => False
    | _ => False

def layb (fr : List (Nat × Sv)) (K : By → Prop) (esz : Nat) : List Ar → Nat → By → Prop
  | [], _, f => K f
  | x :: r, j, f => match ev fr x with
    | some (.one (.ag [] m g)) => match Nat.beq m esz with
      | true => layb fr K esz r (j + 1) (spl f (j * esz) m g)
      | false => False
    | _ => False

section
variable (P : Program) (ρ : Nat → FuncId)
def vop (fr : List (Nat × Sv)) (H : List Blk) (o : PO) (K : Sv → List Blk → Prop) : Prop :=
  match o with
  | .mov x => match ev fr x with
    | some v => K v H
    | none => False
  | .pick c x y => match ev fr c with
    | some (.one (.b c)) => brB c fun c => match (if c then ev fr x else ev fr y) with
      | some v => K v H
      | none => False
    | _ => False
  | .alo z => ∃ m, H.length = m ∧ K (.one (.pt m 0)) (H ++ [⟨false, z.bk⟩])
  | .box x => match ev fr x with
    | some (.one (.ag hd n f)) => ∃ m, H.length = m ∧ K (.one (.pt m 0)) (H ++ [⟨false, .by hd n f⟩])
    | some (.one a) => ∃ m, H.length = m ∧ K (.one (.pt m 0)) (H ++ [⟨false, .vr a⟩])
    | _ => False
  | .bld h n ps => lay fr (fun v => K v H) n ps (List.replicate h 0) (fun _ => 0)
  | .lda x h n => match ev fr x with
    | some (.one (.pt k off)) => match H[k]? with
      | some ⟨_, .by hd N f⟩ => match h with
        | 0 => (hd.length ≤ off ∧ off + n ≤ N) ∧ K (.one (.ag [] n (sh f off))) H
        | _ + 1 => match off with
          | 0 => match Nat.ble n N with
            | true => K (.one (.ag hd n f)) H
            | false => False
          | _ + 1 => False
      | _ => False
    | _ => False
  | .ld8 x => match ev fr x with
    | some (.one (.pt k off)) => match H[k]? with
      | some ⟨_, .by hd N f⟩ => (hd.length ≤ off ∧ off < N) ∧ K (.one (.u (f off))) H
      | _ => False
    | _ => False
  | .ld1 x => match ev fr x with
    | some (.one (.pt k off)) => match H[k]? with
      | some ⟨_, .by hd N _⟩ => match Nat.blt off N with
        | true => match hd[off]? with
          | some z => K (.one (.i .i64 z)) H
          | none => False
        | false => False
      | some ⟨_, .vr a⟩ => match off with
        | 0 => K (.one a) H
        | _ + 1 => False
      | some ⟨_, .rw l⟩ => ∃ a, l[off]? = some a ∧ K (.one a) H
      | _ => False
    | _ => False
  | .sta x v n => match ev fr x, ev fr v with
    | some (.one (.pt k off)), some (.one (.ag hd' m g)) => match H[k]? with
      | some ⟨false, .by hd N f⟩ => match hd' with
        | [] => (m = n ∧ hd.length ≤ off ∧ off + n ≤ N) ∧ K (.tup []) (H.set k ⟨false, .by hd N (spl f off n g)⟩)
        | z :: zs => match off with
          | 0 => match Nat.beq m n && Nat.beq n N && Nat.beq (z :: zs).length hd.length with
            | true => K (.tup []) (H.set k ⟨false, .by (z :: zs) N g⟩)
            | false => False
          | _ + 1 => False
      | _ => False
    | _, _ => False
  | .st8 x v => match ev fr x, ev fr v with
    | some (.one (.pt k off)), some (.one (.u c)) => match H[k]? with
      | some ⟨false, .by hd N f⟩ => (hd.length ≤ off ∧ off < N) ∧ K (.tup []) (H.set k ⟨false, .by hd N (upd f off c)⟩)
      | _ => False
    | _, _ => False
  | .st1 x v => match ev fr x, ev fr v with
    | some (.one (.pt k off)), some (.one a) => match H[k]? with
      | some ⟨false, .by hd N f⟩ => match a with
        | .i .i64 z => match Nat.blt off hd.length && Nat.blt off N with
          | true => K (.tup []) (H.set k ⟨false, .by (hd.set off z) N f⟩)
          | false => False
        | _ => False
      | some ⟨false, .vr _⟩ => match off, a.cell1 with
        | 0, true => K (.tup []) (H.set k ⟨false, .vr a⟩)
        | _, _ => False
      | some ⟨false, .rw l⟩ => (off < l.length ∧ a.cell1 = true) ∧ K (.tup []) (H.set k ⟨false, .rw (l.set off a)⟩)
      | _ => False
    | _, _ => False
  | .nck x => match ev fr x with
    | some (.one (.pt k off)) => K (.one (.pt k off)) H
    | _ => False
  | .bin op x y => vbin op (fun v => K v H) (ev fr x) (ev fr y)
  | .nt x => match ev fr x with
    | some (.one (.b b)) => K (.one (.b (!b))) H
    | _ => False
  | .eqa neg n x y => match ev fr x, ev fr y with
    | some (.one (.ag [] m f)), some (.one (.ag [] m' g)) => match Nat.beq m n && Nat.beq m' n with
      | true => K (.one (.b (match neg with | true => !eqB n f g | false => eqB n f g))) H
      | false => False
    | _, _ => False
  | .eqn neg x => match ev fr x with
    | some (.one (.sl _ _ _ _)) => K (.one (.b (if neg then true else false))) H
    | some (.one .sn) => K (.one (.b (if neg then false else true))) H
    | _ => False
  | .cvt k x => match ev fr x with
    | some (.one (.i _ n)) => match k with
      | .i64 => ∃ z, w64 n = z ∧ K (.one (.i .i64 z)) H
      | .u8 => K (.one (.u (byt n))) H
      | _ => False
    | some (.one (.u c)) => match k with
      | .i64 => K (.one (.i .i64 (c.toNat : Int))) H
      | .u8 => K (.one (.u c)) H
      | _ => False
    | _ => False
  | .mkf f first caps => match ptrs (first.map (ev fr)), ptrs (caps.map (ev fr)) with
    | some a, some b => K (.one (.fn f a b)) H
    | _, _ => False
  | .add x c => match ev fr x with
    | some (.one (.pt k off)) => K (.one (.pt k (off + c))) H
    | _ => False
  | .idx x i len esz => match ev fr x, ev fr i with
    | some (.one (.pt k off)), some (.one (.i .i64 z)) => ∃ x q : Nat, z = (x : Int) ∧ x < len ∧ off + x * esz = q ∧ K (.one (.pt k q)) H
    | _, _ => False
  | .ids x i esz => match ev fr x, ev fr i with
    | some (.one (.sl k off len _)), some (.one (.i .i64 z)) => ∃ x q : Nat, z = (x : Int) ∧ x < len ∧ off + x * esz = q ∧ K (.one (.pt k q)) H
    | _, _ => False
  | .ixb x i len => match ev fr x, ev fr i with
    | some (.one (.ag [] n f)), some (.one (.i .i64 z)) => ∃ x : Nat, z = (x : Int) ∧ x < len ∧ x < n ∧ K (.one (.u (f x))) H
    | _, _ => False
  | .ixa x i len esz => match ev fr x, ev fr i with
    | some (.one (.ag [] n f)), some (.one (.i .i64 z)) => ∃ x : Nat, z = (x : Int) ∧ x < len ∧ x * esz + esz ≤ n ∧ K (.one (.ag [] esz (sh f (x * esz)))) H
    | _, _ => False
  | .ext x j => match ev fr x with
    | some (.tup l) => match l[j]? with
      | some a => K (.one a) H
      | none => False
    | _ => False
  | .call f as => match atoms (as.map (ev fr)) with
    | some l => vcall P ρ H f l K
    | none => False
  | .calv x as => match ev fr x, atoms (as.map (ev fr)) with
    | some (.one (.fn f first caps)), some l => vcall P ρ H f (first.map (fun p => .pt p.1 p.2) ++ l ++ caps.map (fun p => .pt p.1 p.2)) K
    | _, _ => False
  | .len x => match ev fr x with
    | some (.one (.sl _ _ n _)) => K (.one (.i .i64 (n : Int))) H
    | some (.one .sn) => K (.one (.i .i64 0)) H
    | _ => False
  | .slc x lo hi esz => match ev fr x with
    | some (.one (.sl k off len cap)) =>
      match evo fr 0 lo, evo fr (len : Int) hi with
      | some (.one (.i .i64 l)), some (.one (.i .i64 h)) => ∃ x y : Nat, l = (x : Int) ∧ h = (y : Int) ∧ (x ≤ y ∧ y ≤ cap ∧ x < cap) ∧ K (.one (.sl k (off + x * esz) (y - x) (cap - x))) H
      | _, _ => False
    | _ => False
  | .bsa xs => match atoms (xs.map (ev fr)) with
    | some l => match l.all At.cell1 with
      | true => ∃ m, H.length = m ∧ K (.one (.sl m 0 xs.length xs.length)) (H ++ [⟨false, .rw l⟩])
      | false => False
    | none => False
  | .bsb esz xs => layb fr (fun f => ∃ m, H.length = m ∧ K (.one (.sl m 0 xs.length xs.length)) (H ++ [⟨false, .by [] (xs.length * esz) f⟩])) esz xs 0 (fun _ => 0)
end

end Hf
/- The engine, part 3: the check of an operation, and that what the abstract state says of it is so. -/
namespace Hf
open Go

def isVal : Value → At → Bool
  | .int k n, .i k' n' => k == k' && n == n'
  | .int k n, .u x => k == .u8 && n == (x.toNat : Int)
  | .bool x, .b y => x == y
  | .pointer none, .np => true
  | .slice none 0 0, .sn => true
  | _, _ => false

def chkAr (ρ : Nat → FuncId) : Operand → Ar → Bool
  | .tmp t, .t s => t == s
  | .const v, .c a => isVal v a
  | .func f, .c (.fn g [] []) => ρ g == f
  | _, _ => false

def chkArs (ρ : Nat → FuncId) : List Operand → List Ar → Bool
  | x :: xs, y :: ys => chkAr ρ x y && chkArs ρ xs ys
  | [], [] => true
  | _, _ => false

def sizeT (P : Program) (t : TypeId) : Option Nat := (P.info? t).map (·.size)
def aggB : TypeDesc → Bool
  | .struct _ => true
  | .array _ _ => true
  | _ => false
def aggT (P : Program) (t : TypeId) : Option Nat := match P.underlying t with
  | some d => if aggB d then sizeT P t else none
  | none => none
def oneT (P : Program) (t : TypeId) : Bool := match P.underlying t with
  | some d => !aggB d
  | none => false
def intT (P : Program) (t : TypeId) : Option IntKind := match P.underlying t with
  | some (.int k) => some k
  | _ => none

def zI : Value → Bool
  | .int k x => k == .i64 && x == 0
  | _ => false
def zU : Value → Bool
  | .int k x => k == .u8 && x == 0
  | _ => false
def zl : List Value → Nat → Nat → Bool
  | v :: r, h + 1, n + 1 => zI v && zl r h n
  | v :: r, 0, n + 1 => zU v && zl r 0 n
  | [], 0, 0 => true
  | _, _, _ => false
def zcells : Value → Zk → Bool
  | .agg cs, .by h n => zl cs.toList h n
  | .int k x, .i => k == .i64 && x == 0
  | .int k x, .u => k == .u8 && x == 0
  | .bool x, .b => !x
  | .pointer none, .np => true
  | .slice none 0 0, .sn => true
  | _, _ => false
def zeroOk (P : Program) (t : TypeId) (z : Zk) : Bool := match (P.info? t).bind (·.zero) with
  | some v => zcells v z
  | none => false

/-- arrays of arrays .. of bytes, n in all -/
def arrT (P : Program) : Nat → TypeId → Nat → Bool
  | 0, _, _ => false
  | d + 1, t, n => sizeT P t == some n && match P.underlying t with
    | some (.int .u8) => n == 1
    | some (.array len e) => match sizeT P e with
      | some m => n == len * m && arrT P d e m && (match P.underlying e with | some (.int _) => true | some (.array _ _) => true | _ => false)
      | none => false
    | _ => false

def fnOk (P : Program) (f : FuncId) : Bool := match P.funcs[f]? with
  | some fn => fn.name != "runtime.NumGoroutine" && fn.body.isSome
  | none => false

def chkPs (P : Program) (ρ : Nat → FuncId) (place : Nat → Option (Nat × Nat)) : List (Nat × Operand) → List (Nat × Nat × Ar) → Bool
  | (i, x) :: xs, (off, sz, y) :: ys => (match place i with
    | some (o, s) => o == off && s == sz
    | none => false) && chkAr ρ x y && chkPs P ρ place xs ys
  | [], [] => true
  | _, _ => false

/-- parts 0, 1, 2 .. in order -/
def chkSeq (ρ : Nat → FuncId) : Nat → List (Nat × Operand) → List Ar → Bool
  | j, (i, x) :: xs, y :: ys => i == j && chkAr ρ x y && chkSeq ρ (j + 1) xs ys
  | _, [], [] => true
  | _, _, _ => false

def chkOp (P : Program) (ρ : Nat → FuncId) (o : Op) (p : PO) : Bool :=
  match p with
  | .mov y => match o with
    | .move x => chkAr ρ x y
    | .assign x => chkAr ρ x y
    | _ => false
  | .pick c' x' y' => match o with
    | .pick c x y => chkAr ρ c c' && chkAr ρ x x' && chkAr ρ y y'
    | _ => false
  | .alo z => match o with
    | .alloc t => zeroOk P t z
    | _ => false
  | .box y => match o with
    | .box _ x => chkAr ρ x y
    | _ => false
  | .bld h n ps => match o with
    | .build t parts => zeroOk P t (.by h n) && match P.underlying t with
      | some (.struct fields) => chkPs P ρ (fun i => match fields[i]? with
        | some f => match sizeT P f.type with
          | some s => some (f.offset, s)
          | none => none
        | none => none) parts.toList ps && fields.all (fun f => (sizeT P f.type).isSome)
      | some (.array _ e) => match sizeT P e with
        | some s => chkPs P ρ (fun i => some (i * s, s)) parts.toList ps
        | none => false
      | _ => false
    | _ => false
  | .lda y _ n => match o with
    | .load t x => aggT P t == some n && chkAr ρ x y
    | _ => false
  | .ld8 y => match o with
    | .load t x => oneT P t && chkAr ρ x y
    | _ => false
  | .ld1 y => match o with
    | .load t x => oneT P t && chkAr ρ x y
    | _ => false
  | .sta y u n => match o with
    | .store t x v => sizeT P t == some n && chkAr ρ x y && chkAr ρ v u
    | _ => false
  | .st8 y u => match o with
    | .store t x v => sizeT P t == some 1 && chkAr ρ x y && chkAr ρ v u
    | _ => false
  | .st1 y u => match o with
    | .store t x v => sizeT P t == some 1 && chkAr ρ x y && chkAr ρ v u
    | _ => false
  | .nck y => match o with
    | .nilCheck x => chkAr ρ x y
    | _ => false
  | .bin op' x' y' => match o with
    | .binOp op _ x y _ => decide (op = op') && chkAr ρ x x' && chkAr ρ y y'
    | _ => false
  | .nt y => match o with
    | .unOp .not _ x => chkAr ρ x y
    | _ => false
  | .eqa neg n x' y' => match o with
    | .binOp op t x y _ => decide (op = if neg then BinOp.neq else BinOp.eql) && arrT P 20 t n && (match P.underlying t with | some (.array _ _) => true | _ => false) && !P.eqGuardType P.depth t && chkAr ρ x x' && chkAr ρ y y'
    | _ => false
  | .eqn neg y => match o with
    | .binOp op t x z _ => decide (op = if neg then BinOp.neq else BinOp.eql) && (match P.underlying t with | some (.slice _) => true | _ => false) && (match z with | .const (.slice none 0 0) => true | _ => false) && chkAr ρ x y
    | _ => false
  | .cvt k y => match o with
    | .convert s d x => (intT P s).isSome && intT P d == some k && chkAr ρ x y
    | _ => false
  | .mkf f' first' caps' => match o with
    | .makeFunc fn first caps => (match fn with | .func f => ρ f' == f | _ => false) && chkArs ρ first.toList first' && chkArs ρ caps.toList caps'
    | _ => false
  | .add y c => match o with
    | .fieldAddr s x j => chkAr ρ x y && match P.underlying s with
      | some (.struct fields) => match fields[j]? with
        | some f => f.offset == c && (match sizeT P f.type with | some n => n != 0 | none => false)
        | none => false
      | _ => false
    | _ => false
  | .idx y j len esz => match o with
    | .indexAddr t x i => chkAr ρ x y && chkAr ρ i j && (match P.underlying t with
      | some (.array l e) => l == len && sizeT P e == some esz
      | _ => false)
    | _ => false
  | .ids y j esz => match o with
    | .indexAddr t x i => chkAr ρ x y && chkAr ρ i j && (match P.underlying t with
      | some (.slice e) => sizeT P e == some esz
      | _ => false)
    | _ => false
  | .ixb y j len => match o with
    | .index t x i => chkAr ρ x y && chkAr ρ i j && (match P.underlying t with
      | some (.array l e) => l == len && sizeT P e == some 1 && oneT P e
      | _ => false)
    | _ => false
  | .ixa y j len esz => match o with
    | .index t x i => chkAr ρ x y && chkAr ρ i j && (match P.underlying t with
      | some (.array l e) => l == len && aggT P e == some esz
      | _ => false)
    | _ => false
  | .ext y j => match o with
    | .extract x i => i == j && chkAr ρ x y
    | _ => false
  | .call f' as' => match o with
    | .call c => (match c.callee with | .value (.func f) => ρ f' == f && fnOk P f | _ => false) && chkArs ρ c.args.toList as'
    | _ => false
  | .calv y as' => match o with
    | .call c => (match c.callee with | .value (.tmp t) => chkAr ρ (.tmp t) y | _ => false) && chkArs ρ c.args.toList as'
    | _ => false
  | .len y => match o with
    | .call c => (match c.callee with | .builtin .len => true | _ => false) && (match c.args.toList with | [x] => chkAr ρ x y | _ => false) && (match c.argTypes.toList with | [t] => (match P.underlying t with | some (.slice _) => true | _ => false) | _ => false)
    | _ => false
  | .slc y lo' hi' esz => match o with
    | .slice t x lo hi mx => chkAr ρ x y && mx.isNone && (match lo, lo' with | none, none => true | some u, some v => chkAr ρ u v | _, _ => false) && (match hi, hi' with | none, none => true | some u, some v => chkAr ρ u v | _, _ => false) && (match P.underlying t with
      | some (.slice e) => sizeT P e == some esz
      | _ => false)
    | _ => false
  | .bsa ys => match o with
    | .buildSlice t len parts => len == ys.length && decide (len ≤ 100) && chkSeq ρ 0 parts.toList ys && (match P.underlying t with
      | some (.slice e) => sizeT P e == some 1 && (match (P.info? e).bind (·.zero) with | some z => z.cells.size == 1 | none => false)
      | _ => false)
    | _ => false
  | .bsb esz ys => match o with
    | .buildSlice t len parts => len == ys.length && decide (len * esz ≤ 10000) && esz != 0 && chkSeq ρ 0 parts.toList ys && (match P.underlying t with
      | some (.slice e) => sizeT P e == some esz && zeroOk P e (.by 0 esz)
      | _ => false)
    | _ => false

section
variable {P : Program} {ρ : Nat → FuncId} {σ : Nat → Nat} {tm : Array Value} {fr : List (Nat × Sv)} {m : Nat}

theorem isVal_sound {v : Value} {a : At} (h : isVal v a = true) : v = ren ρ σ a ∧ ∀ m, a.lt m = true := by
  unfold isVal at h
  split at h
  · simp only [Bool.and_eq_true, beq_iff_eq] at h; obtain ⟨rfl, rfl⟩ := h; exact ⟨rfl, fun _ => rfl⟩
  · simp only [Bool.and_eq_true, beq_iff_eq] at h; obtain ⟨rfl, rfl⟩ := h; exact ⟨rfl, fun _ => rfl⟩
  · simp only [beq_iff_eq] at h; subst h; exact ⟨rfl, fun _ => rfl⟩
  · exact ⟨rfl, fun _ => rfl⟩
  · exact ⟨rfl, fun _ => rfl⟩
  · cases h

theorem chkAr_sound {a : Act} {x : Operand} {y : Ar} {v : Sv} (h : chkAr ρ x y = true) (hf : FRel ρ σ a.tmps fr m) (he : ev fr y = some v) :
    a.eval x = renS ρ σ v ∧ v.lt m = true := by
  unfold chkAr at h
  split at h
  · simp only [beq_iff_eq] at h; subst h
    have h1 := hf.val _ _ he
    refine ⟨?_, hf.clo _ _ he⟩
    simp [Act.eval, h1]
  · obtain ⟨h1, h2⟩ := isVal_sound (ρ := ρ) (σ := σ) h
    simp only [ev, Option.some.injEq] at he; subst he
    exact ⟨h1, h2 m⟩
  · simp only [beq_iff_eq] at h; subst h
    simp only [ev, Option.some.injEq] at he; subst he
    exact ⟨rfl, rfl⟩
  · cases h

theorem atoms_sound {a : Act} : ∀ {xs : List Operand} {ys : List Ar} {l : List At}, chkArs ρ xs ys = true → FRel ρ σ a.tmps fr m → atoms (ys.map (ev fr)) = some l →
    xs.map a.eval = l.map (ren ρ σ) ∧ ∀ b ∈ l, b.lt m = true
  | [], [], l, _, _, h => by simp [atoms] at h; subst h; simp
  | x :: xs, y :: ys, l, hc, hf, h => by
    simp only [chkArs, Bool.and_eq_true] at hc
    simp only [List.map_cons] at h
    unfold atoms at h
    split at h
    · rename_i heq; simp at heq
    · rename_i a0 r heq
      simp only [List.cons.injEq] at heq
      obtain ⟨e1, e2⟩ := heq
      subst e2
      split at h
      · rename_i l' hl'
        simp only [Option.some.injEq] at h; subst h
        have h1 := chkAr_sound hc.1 hf e1
        have h2 := atoms_sound hc.2 hf hl'
        refine ⟨by simp [h1.1, h2.1, renS], ?_⟩
        intro b hb
        rcases List.mem_cons.1 hb with rfl | hb
        · exact h1.2
        · exact h2.2 b hb
      · cases h
    · cases h
  | [], _ :: _, _, hc, _, _ => by simp [chkArs] at hc
  | _ :: _, [], _, hc, _, _ => by simp [chkArs] at hc

theorem ptrs_sound {a : Act} : ∀ {xs : List Operand} {ys : List Ar} {l : List (Nat × Nat)}, chkArs ρ xs ys = true → FRel ρ σ a.tmps fr m → ptrs (ys.map (ev fr)) = some l →
    xs.map a.eval = l.map (pv σ) ∧ ∀ b ∈ l, b.1 < m
  | [], [], l, _, _, h => by simp [ptrs] at h; subst h; simp
  | x :: xs, y :: ys, l, hc, hf, h => by
    simp only [chkArs, Bool.and_eq_true] at hc
    simp only [List.map_cons] at h
    unfold ptrs at h
    split at h
    · rename_i heq; simp at heq
    · rename_i k o r heq
      simp only [List.cons.injEq] at heq
      obtain ⟨e1, e2⟩ := heq
      subst e2
      split at h
      · rename_i l' hl'
        simp only [Option.some.injEq] at h; subst h
        have h1 := chkAr_sound hc.1 hf e1
        have h2 := ptrs_sound hc.2 hf hl'
        refine ⟨by simp [h1.1, h2.1, renS, ren, pv], ?_⟩
        intro b hb
        rcases List.mem_cons.1 hb with rfl | hb
        · simpa [Sv.lt, At.lt] using h1.2
        · exact h2.2 b hb
      · cases h
    · cases h
  | [], _ :: _, _, hc, _, _ => by simp [chkArs] at hc
  | _ :: _, [], _, hc, _, _ => by simp [chkArs] at hc

/-! ### runs -/
variable {w : World}
theorem run_sizeOf' {t : TypeId} {n : Nat} (h : sizeT P t = some n) : (Go.sizeOf t).run P w = .ok n w := by
  unfold sizeT at h
  cases hi : P.info? t with
  | none => simp [hi] at h
  | some i =>
    simp only [hi, Option.map_some, Option.some.injEq] at h
    simp [Go.sizeOf, typeInfo, hi, h]
theorem run_isAgg' {t : TypeId} {d : TypeDesc} (h : P.underlying t = some d) : (isAgg t).run P w = .ok (aggB d) w := by
  unfold isAgg
  rw [Sem.run_bind, run_underlying h w]
  cases d <;> rfl
theorem run_oneT {t : TypeId} (h : oneT P t = true) : (isAgg t).run P w = .ok false w := by
  unfold oneT at h
  split at h
  · rename_i d hd; rw [run_isAgg' hd]; simp at h; rw [h]
  · cases h
theorem aggT_spec {t : TypeId} {n : Nat} (h : aggT P t = some n) : (isAgg t).run P w = .ok true w ∧ sizeT P t = some n := by
  unfold aggT at h
  split at h
  · rename_i d hd
    split at h
    · rename_i hb; rw [run_isAgg' hd, hb]; exact ⟨rfl, h⟩
    · cases h
  · cases h

theorem add_mk (b o j : Nat) : (⟨b, o, none⟩ : Addr).add j = ⟨b, o + j, none⟩ := by unfold Addr.add; split <;> simp_all

theorem cell_blk {b o : Nat} {cs : Array Value} {T : TypeId} (h : w.heap[b]? = some (.cells cs T (0, 0))) : w.cell? ⟨b, o, none⟩ = cs[o]? := by
  simp [World.cell?, h]

/-- cells read in a row -/
theorem run_cells {b off n : Nat} {cs : Array Value} {T : TypeId} {g : Nat → Value} (h : w.heap[b]? = some (.cells cs T (0, 0))) (hg : ∀ j, j < n → cs[off + j]? = some (g j)) :
    (loadCells ⟨b, off, none⟩ n).run P w = .ok ((List.range n).map g).toArray w :=
  run_loadCells w _ n g fun j hj => by rw [add_mk, cell_blk h]; exact hg j hj

theorem run_loadAgg {t : TypeId} {b off n : Nat} {cs : Array Value} {T : TypeId} {g : Nat → Value} (ht : aggT P t = some n) (h : w.heap[b]? = some (.cells cs T (0, 0)))
    (hg : ∀ j, j < n → cs[off + j]? = some (g j)) : (loadVar t ⟨b, off, none⟩).run P w = .ok (.agg ((List.range n).map g).toArray) w := by
  obtain ⟨h1, h2⟩ := aggT_spec (w := w) ht
  unfold loadVar
  rw [Sem.run_bind, h1]
  simp only [Result.andThen_ok, if_true, Sem.run_bind, run_sizeOf' h2, run_cells h hg, Sem.run_pure]

theorem run_loadOne {t : TypeId} {b off : Nat} {cs : Array Value} {T : TypeId} {v : Value} (ht : oneT P t = true) (h : w.heap[b]? = some (.cells cs T (0, 0)))
    (hg : cs[off]? = some v) : (loadVar t ⟨b, off, none⟩).run P w = .ok v w := by
  unfold loadVar
  rw [Sem.run_bind, run_oneT ht]
  simp only [Result.andThen_ok, Bool.false_eq_true, if_false, run_load, cell_blk h, hg]

theorem run_storeAll {t : TypeId} {b off : Nat} {cs : Array Value} {T : TypeId} {v : Value} {n : Nat} (ht : sizeT P t = some n) (hv : v.cells.size = n) (h : w.heap[b]? = some (.cells cs T (0, 0)))
    (hle : off + n ≤ cs.size) (h1 : ∀ u ∈ v.cells.toList, u.oneCell' = true) :
    (storeVar t ⟨b, off, none⟩ v).run P w = .ok () (w.setRow b (cs.toList.take off ++ v.cells.toList ++ cs.toList.drop (off + n)).toArray) := by
  unfold storeVar
  rw [Sem.run_bind, run_sizeOf' ht]
  simp only [Result.andThen_ok, ne_eq, hv, not_true_eq_false, if_false]
  have := run_storeCells_at (P := P) b off T v.cells.toList 0 cs w h (by simp [hv]; omega) h1
  simp only [Nat.add_zero, Array.length_toList, hv] at this
  exact this
end
end Hf
/- The engine, part 4: an operation of the abstract state is an operation of the model. -/
namespace Hf
open Go

section
variable {P : Program} {ρ : Nat → FuncId} {σ : Nat → Nat} {H : List Blk} {w : World}

/-! ### a new block -/
def setAt (σ : Nat → Nat) (k b : Nat) : Nat → Nat := fun x => if x = k then b else σ x
theorem setAt_lt {σ : Nat → Nat} {k b : Nat} (x : Nat) (h : x < k) : setAt σ k b x = σ x := by
  unfold setAt; rw [if_neg (by omega)]
theorem setAt_same {σ : Nat → Nat} {k b : Nat} : setAt σ k b k = b := by simp [setAt]

theorem Sp_alloc (hh : HRel ρ σ w H) (c : Bk) (hc : c.lt H.length = true) (T : TypeId) :
    Sp ρ σ H w (setAt σ H.length w.heap.size) (H ++ [⟨false, c⟩]) { w with heap := w.heap.push (.cells (cellsB ρ σ c) T) } where
  h := {
    at_ := fun k B hB => by
      by_cases hk : k < H.length
      · rw [List.getElem?_append_left hk] at hB
        obtain ⟨T', e⟩ := hh.at_ k B hB
        have hlt := hh.lt hk
        refine ⟨T', ?_⟩
        rw [setAt_lt k hk, cellsB_congr (fun x hx => setAt_lt x hx) (hh.clo k B hB)]
        show (w.heap.push _)[σ k]? = _
        rw [Array.getElem?_push, if_neg (by omega)]
        exact e
      · have hk' : k = H.length := by
          have := (List.getElem?_eq_some_iff.1 hB).1
          simp at this; omega
        subst hk'
        simp at hB
        subst hB
        refine ⟨T, ?_⟩
        rw [setAt_same, cellsB_congr (fun x hx => setAt_lt x hx) hc]
        show (w.heap.push _)[w.heap.size]? = _
        simp
    sep := fun j k B hjk hk hB hro => by
      simp at hk
      by_cases hk1 : k < H.length
      · by_cases hj1 : j < H.length
        · rw [setAt_lt k hk1, setAt_lt j hj1]
          rw [List.getElem?_append_left hj1] at hB
          exact hh.sep j k B hjk hk1 hB hro
        · have hj' : j = H.length := by
            have := (List.getElem?_eq_some_iff.1 hB).1
            simp at this; omega
          subst hj'
          rw [setAt_same, setAt_lt k hk1]
          have := hh.lt hk1; omega
      · have hk' : k = H.length := by omega
        subst hk'
        have hj1 : j < H.length := by
          have := (List.getElem?_eq_some_iff.1 hB).1
          simp at this; omega
        rw [setAt_same, setAt_lt j hj1]
        have := hh.lt hj1; omega
    clo := fun k B hB => by
      by_cases hk : k < H.length
      · rw [List.getElem?_append_left hk] at hB
        exact Bk.lt_mono (by simp) (hh.clo k B hB)
      · have hk' : k = H.length := by
          have := (List.getElem?_eq_some_iff.1 hB).1
          simp at this; omega
        subst hk'
        simp at hB
        subst hB
        exact Bk.lt_mono (by simp) hc }
  k := ⟨rfl, rfl, rfl, by simp, fun b hb _ => by
    show (w.heap.push _)[b]? = _
    rw [Array.getElem?_push, if_neg (by omega)]⟩
  len := by simp
  same := fun k hk => setAt_lt k hk
  rof := fun k B B' e e' => by
    have hk := (List.getElem?_eq_some_iff.1 e).1
    rw [List.getElem?_append_left hk, e] at e'
    cases e'; rfl
  fresh := fun k h1 h2 => by
    simp at h2
    have : k = H.length := by omega
    subst this
    rw [setAt_same]; exact Nat.le_refl _

/-! ### a block written -/
theorem Sp_store (hh : HRel ρ σ w H) {k : Nat} {c0 c : Bk} (hk : H[k]? = some ⟨false, c0⟩) (hc : c.lt H.length = true) :
    Sp ρ σ H w σ (H.set k ⟨false, c⟩) (w.setRow (σ k) (cellsB ρ σ c)) := by
  have hkl : k < H.length := (List.getElem?_eq_some_iff.1 hk).1
  have hget : ∀ j B, (H.set k ⟨false, c⟩)[j]? = some B → (j = k ∧ B = ⟨false, c⟩) ∨ (j ≠ k ∧ H[j]? = some B) := by
    intro j B hB
    by_cases hj : j = k
    · subst hj
      rw [List.getElem?_set_self hkl] at hB
      exact .inl ⟨rfl, by cases hB; rfl⟩
    · rw [List.getElem?_set_ne (Ne.symm hj)] at hB
      exact .inr ⟨hj, hB⟩
  obtain ⟨T, hT⟩ := hh.at_ k _ hk
  refine ⟨⟨?_, ?_, ?_⟩, ⟨rfl, rfl, rfl, by simp, ?_⟩, by simp, fun _ _ => rfl, ?_, ?_⟩
  · intro j B hB
    rcases hget j B hB with ⟨rfl, rfl⟩ | ⟨hj, hB'⟩
    · exact ⟨T, setRow_heap w _ _ _ T _ hT⟩
    · obtain ⟨T', e⟩ := hh.at_ j B hB'
      refine ⟨T', ?_⟩
      have hjl : j < H.length := (List.getElem?_eq_some_iff.1 hB').1
      rw [setRow_other _ _ _ _ (fun e' => hh.sep k j _ (Ne.symm hj) hjl hk rfl e'.symm)]
      exact e
  · intro i j B hij hj hB hro
    simp at hj
    rcases hget i B hB with ⟨rfl, rfl⟩ | ⟨hi, hB'⟩
    · exact hh.sep _ _ _ hij hj hk rfl
    · exact hh.sep _ _ _ hij hj hB' hro
  · intro j B hB
    simp only [List.length_set]
    rcases hget j B hB with ⟨rfl, rfl⟩ | ⟨hj, hB'⟩
    · exact hc
    · exact hh.clo j B hB'
  · intro b hb hn
    exact setRow_other _ _ _ _ (hn k _ hk rfl)
  · intro j B B' e e'
    rcases hget j B' e' with ⟨rfl, rfl⟩ | ⟨hj, hB'⟩
    · rw [hk] at e; cases e; rfl
    · rw [hB'] at e; cases e; rfl
  · intro j h1 h2
    simp at h2
    omega

/-! ### lists of cells -/
theorem cells_ext {n : Nat} {l : List Value} {g : Nat → Value} (hl : l.length = n) (h : ∀ x, x < n → l[x]? = some (g x)) : l = (List.range n).map g := by
  apply List.ext_getElem?
  intro x
  by_cases hx : x < n
  · rw [h x hx]; simp [hx]
  · rw [List.getElem?_eq_none (by omega), List.getElem?_eq_none (by simp; omega)]

theorem splice_get {cs vs : List Value} {off : Nat} (h : off + vs.length ≤ cs.length) (x : Nat) :
    (cs.take off ++ vs ++ cs.drop (off + vs.length))[x]? = if x < off then cs[x]? else if x < off + vs.length then vs[x - off]? else cs[x]? := by
  by_cases h1 : x < off
  · rw [if_pos h1, List.append_assoc, List.getElem?_append_left (by simp; omega), List.getElem?_take_of_lt h1]
  · rw [if_neg h1]
    by_cases h2 : x < off + vs.length
    · rw [if_pos h2, List.getElem?_append_left (by simp; omega), List.getElem?_append_right (by simp; omega)]
      congr 1; simp; omega
    · rw [if_neg h2, List.getElem?_append_right (by simp; omega), List.getElem?_drop]
      congr 1; simp; omega

theorem splice_len {cs vs : List Value} {off : Nat} (h : off + vs.length ≤ cs.length) : (cs.take off ++ vs ++ cs.drop (off + vs.length)).length = cs.length := by
  simp; omega

theorem spl_cells {hd : List Int} {N n off : Nat} {f g : By} (h0 : hd.length ≤ off) (h1 : off + n ≤ N) :
    ((cellsOf hd N f).toList.take off ++ (cellsOf [] n g).toList ++ (cellsOf hd N f).toList.drop (off + n)).toArray = cellsOf hd N (spl f off n g) := by
  have hn : (cellsOf [] n g).toList.length = n := by simp [cellsOf]
  have hN : (cellsOf hd N f).toList.length = N := by simp [cellsOf]
  have hle : off + (cellsOf [] n g).toList.length ≤ (cellsOf hd N f).toList.length := by omega
  unfold cellsOf
  congr 1
  apply cells_ext
  · have := splice_len hle; rw [hn, hN] at this; simpa [cellsOf] using this
  · intro x hx
    have := splice_get hle x
    rw [hn] at this
    simp only [cellsOf] at this
    rw [this]
    by_cases a1 : x < off
    · rw [if_pos a1]
      simp [hx, cel, spl, show ¬ (off ≤ x) by omega]
    · rw [if_neg a1]
      by_cases a2 : x < off + n
      · rw [if_pos a2]
        have e1 : hd[x]? = none := List.getElem?_eq_none (by omega)
        have a3 : x - off < n := by omega
        simp [a3, cel, spl, e1, show off ≤ x by omega, a2]
      · rw [if_neg a2]
        simp [hx, cel, spl, a2]

theorem upd_cells {hd : List Int} {N off : Nat} {f : By} {c : UInt8} (h0 : hd.length ≤ off) (h1 : off < N) :
    ((cellsOf hd N f).toList.take off ++ [Value.int .u8 (c.toNat : Int)] ++ (cellsOf hd N f).toList.drop (off + 1)).toArray = cellsOf hd N (upd f off c) := by
  have := spl_cells (f := f) (g := fun _ => c) (n := 1) h0 (by omega : off + 1 ≤ N)
  have e1 : (cellsOf [] 1 (fun _ => c)).toList = [Value.int .u8 (c.toNat : Int)] := rfl
  rw [e1] at this
  rw [this]
  congr 1
  funext x
  unfold spl upd
  by_cases h : x = off
  · subst h; simp
  · rw [if_neg (by omega), if_neg h]

theorem hdset_cells {hd : List Int} {N off : Nat} {f : By} {z : Int} (h0 : off < hd.length) (h1 : off < N) :
    ((cellsOf hd N f).toList.take off ++ [Value.int .i64 z] ++ (cellsOf hd N f).toList.drop (off + 1)).toArray = cellsOf (hd.set off z) N f := by
  have hN : (cellsOf hd N f).toList.length = N := by simp [cellsOf]
  have hle : off + ([Value.int .i64 z] : List Value).length ≤ (cellsOf hd N f).toList.length := by rw [hN]; simp; omega
  unfold cellsOf
  congr 1
  apply cells_ext
  · have := splice_len hle; rw [hN] at this; simpa [cellsOf] using this
  · intro x hx
    have := splice_get hle x
    simp only [cellsOf, List.length_singleton] at this
    rw [this]
    by_cases a1 : x < off
    · rw [if_pos a1]
      simp [hx, cel, List.getElem?_set_ne (show off ≠ x by omega)]
    · rw [if_neg a1]
      by_cases a2 : x < off + 1
      · rw [if_pos a2]
        have : x = off := by omega
        subst this
        simp [cel, h0]
      · rw [if_neg a2]
        simp [hx, cel, List.getElem?_set_ne (show off ≠ x by omega)]

theorem cellsOf_one (hd : List Int) (n : Nat) (f : By) : ∀ u ∈ (cellsOf hd n f).toList, u.oneCell' = true := by
  intro u hu
  simp only [cellsOf, List.mem_map] at hu
  obtain ⟨x, _, rfl⟩ := hu
  unfold cel
  split <;> rfl

theorem ren_one {a : At} (h : a.cell1 = true) : (ren ρ σ a).oneCell' = true ∧ (ren ρ σ a).cells = #[ren ρ σ a] := by
  cases a <;> first | exact ⟨rfl, rfl⟩ | cases h

theorem cellsB_by (hd : List Int) (n : Nat) (f : By) : cellsB ρ σ (.by hd n f) = cellsOf hd n f := rfl

end
end Hf
/- The engine, part 5: soundness of the operations but calls. -/
namespace Hf
open Go

section
variable {P : Program} {ρ : Nat → FuncId} {σ : Nat → Nat} {H : List Blk} {w : World} {o : Oper} {a : Act} {fr : List (Nat × Sv)} {K : Sv → List Blk → Prop}
variable {next : Act → World → Prop} {Q : Exit → Act → World → Prop}

theorem value_wp {w' : World} {v : Value} (h : (execOp a.eval o).run P w = .ok (.value v) w') (hn : next (a.put o.dst v) w') : o.wp P a w next Q := by
  unfold Oper.wp
  rw [h]
  exact hn
theorem skip_wp {w' : World} (h : (execOp a.eval o).run P w = .ok .skip w') (hn : next (a.put o.dst undef) w') : o.wp P a w next Q := by
  unfold Oper.wp
  rw [h]
  exact hn

/-- what a caller of the operations' laws hands over -/
def Nx (ρ : Nat → FuncId) (σ : Nat → Nat) (H : List Blk) (w : World) (o : Oper) (a : Act) (K : Sv → List Blk → Prop) (next : Act → World → Prop) : Prop :=
  ∀ v H' σ' w', K v H' → Sp ρ σ H w σ' H' w' → v.lt H'.length = true → next (a.put o.dst (renS ρ σ' v)) w'

theorem here (hn : Nx ρ σ H w o a K next) (hh : HRel ρ σ w H) {v : Sv} (hK : K v H) (hl : v.lt H.length = true) {x : Value} (hx : x = renS ρ σ v)
    (hrun : (execOp a.eval o).run P w = .ok (.value x) w) : o.wp P a w next Q :=
  value_wp hrun (by rw [hx]; exact hn v H σ w hK (Sp.refl hh) hl)

theorem blk_of (hh : HRel ρ σ w H) {k : Nat} {r : Bool} {c : Bk} (h : H[k]? = some ⟨r, c⟩) : ∃ T, w.heap[σ k]? = some (.cells (cellsB ρ σ c) T (0, 0)) := hh.at_ k _ h

/-! ### plain ones -/
theorem s_mov {y : Ar} (hc : chkOp P ρ o.op (.mov y) = true) (hf : FRel ρ σ a.tmps fr H.length) (hh : HRel ρ σ w H) (hv : vop P ρ fr H (.mov y) K) (hn : Nx ρ σ H w o a K next) : o.wp P a w next Q := by
  simp only [vop] at hv
  split at hv
  · rename_i v he
    have main : ∀ x, chkAr ρ x y = true → (o.op = .move x ∨ o.op = .assign x) → o.wp P a w next Q := by
      intro x hx ho
      obtain ⟨h1, h2⟩ := chkAr_sound hx hf he
      refine here hn hh hv h2 h1 ?_
      rcases ho with ho | ho <;> simp [execOp, ho]
    simp only [chkOp] at hc
    split at hc
    · rename_i x ho; exact main x hc (.inl ho)
    · rename_i x ho; exact main x hc (.inr ho)
    · cases hc
  · exact hv.elim

theorem s_pick {c' x' y' : Ar} (hc : chkOp P ρ o.op (.pick c' x' y') = true) (hf : FRel ρ σ a.tmps fr H.length) (hh : HRel ρ σ w H) (hv : vop P ρ fr H (.pick c' x' y') K) (hn : Nx ρ σ H w o a K next) : o.wp P a w next Q := by
  simp only [vop] at hv
  split at hv
  · rename_i b he
    have hv' := brB_elim hv
    clear hv
    simp only [chkOp] at hc
    split at hc
    · rename_i c x y ho
      simp only [Bool.and_eq_true] at hc
      obtain ⟨⟨h1, h2⟩, h3⟩ := hc
      obtain ⟨e1, -⟩ := chkAr_sound h1 hf he
      split at hv'
      · rename_i v hev
        cases b
        · simp only [Bool.false_eq_true, if_false] at hev
          obtain ⟨e3, l3⟩ := chkAr_sound h3 hf hev
          refine here hn hh hv' l3 e3 ?_
          simp [execOp, ho, e1, renS, ren, asBool]
        · simp only [if_true] at hev
          obtain ⟨e3, l3⟩ := chkAr_sound h2 hf hev
          refine here hn hh hv' l3 e3 ?_
          simp [execOp, ho, e1, renS, ren, asBool]
      · exact hv'.elim
    · cases hc
  · exact hv.elim

theorem s_nt {y : Ar} (hc : chkOp P ρ o.op (.nt y) = true) (hf : FRel ρ σ a.tmps fr H.length) (hh : HRel ρ σ w H) (hv : vop P ρ fr H (.nt y) K) (hn : Nx ρ σ H w o a K next) : o.wp P a w next Q := by
  simp only [vop] at hv
  split at hv
  · rename_i b he
    simp only [chkOp] at hc
    split at hc
    · rename_i t x ho
      obtain ⟨e1, -⟩ := chkAr_sound hc hf he
      refine here hn hh hv rfl rfl ?_
      simp [execOp, ho, e1, renS, ren, Op.unary]
    · cases hc
  · exact hv.elim

theorem s_nck {y : Ar} (hc : chkOp P ρ o.op (.nck y) = true) (hf : FRel ρ σ a.tmps fr H.length) (hh : HRel ρ σ w H) (hv : vop P ρ fr H (.nck y) K) (hn : Nx ρ σ H w o a K next) : o.wp P a w next Q := by
  simp only [vop] at hv
  split at hv
  · rename_i k off he
    simp only [chkOp] at hc
    split at hc
    · rename_i x ho
      obtain ⟨e1, l1⟩ := chkAr_sound hc hf he
      refine here hn hh hv l1 rfl ?_
      simp [execOp, ho, e1, renS, ren]
    · cases hc
  · exact hv.elim

theorem run_underlying' {t : TypeId} {d : TypeDesc} (h : P.underlying t = some d) (w : World) : (underlying t).run P w = .ok d w := run_underlying h w

theorem s_cvt {k : IntKind} {y : Ar} (hc : chkOp P ρ o.op (.cvt k y) = true) (hf : FRel ρ σ a.tmps fr H.length) (hh : HRel ρ σ w H) (hv : vop P ρ fr H (.cvt k y) K) (hn : Nx ρ σ H w o a K next) : o.wp P a w next Q := by
  simp only [chkOp] at hc
  split at hc
  · rename_i s d x ho
    simp only [Bool.and_eq_true, beq_iff_eq] at hc
    obtain ⟨⟨h1, h2⟩, h3⟩ := hc
    have hs : ∃ ks, P.underlying s = some (.int ks) := by
      unfold intT at h1
      split at h1
      · rename_i ks e; exact ⟨ks, e⟩
      · cases h1
    have hd : P.underlying d = some (.int k) := by
      unfold intT at h2
      split at h2
      · rename_i ks e; cases h2; exact e
      · cases h2
    obtain ⟨ks, hs⟩ := hs
    have hrun : ∀ kk n, (convert s d (.int kk n)).run P w = .ok (.int k (k.wrap n)) w := by
      intro kk n
      unfold convert
      simp [Sem.run_bind, run_underlying' hs, run_underlying' hd, Conv.intToInt]
    simp only [vop] at hv
    split at hv
    · rename_i kk n he
      obtain ⟨e1, -⟩ := chkAr_sound h3 hf he
      split at hv
      · obtain ⟨_, rfl, hv⟩ := hv
        refine here hn hh hv rfl rfl ?_
        simp [execOp, ho, e1, renS, ren, hrun, w64]
      · refine here hn hh hv rfl rfl ?_
        simp [execOp, ho, e1, renS, ren, hrun, wrap_u8]
      · exact hv.elim
    · rename_i c he
      obtain ⟨e1, -⟩ := chkAr_sound h3 hf he
      have hle := toNat_le c
      split at hv
      · refine here hn hh hv rfl rfl ?_
        have : IntKind.i64.wrap (c.toNat : Int) = (c.toNat : Int) := w64_id _ (by omega) (by omega)
        simp [execOp, ho, e1, renS, ren, hrun, this]
      · refine here hn hh hv rfl rfl ?_
        have : IntKind.u8.wrap (c.toNat : Int) = (c.toNat : Int) := by rw [wrap_u8, byt_toNat]; omega
        simp [execOp, ho, e1, renS, ren, hrun, this]
      · exact hv.elim
    · exact hv.elim
  · cases hc

theorem eqGuard_int {op : BinOp} {t : TypeId} {x y : Operand} {k k' : IntKind} {m n : Int} : (eqGuard op t x y (.int k m) (.int k' n)).run P w = .ok () w := by
  unfold eqGuard
  cases op <;> simp

theorem u8_beq (x y : UInt8) : ((x.toNat : Int) == (y.toNat : Int)) = (x == y) := by
  rw [Bool.eq_iff_iff]
  simp only [beq_iff_eq]
  constructor
  · intro h; exact UInt8.toNat_inj.1 (by omega)
  · rintro rfl; rfl
theorem u8_bne (x y : UInt8) : ((x.toNat : Int) != (y.toNat : Int)) = (x != y) := by
  simp only [bne, u8_beq]

theorem run_quo {t : TypeId} {m n : Int} (h : n ≠ 0) : (binOp .quo t (.int .i64 m) (.int .i64 n)).run P w = .ok (.int .i64 (w64 (m.tdiv n))) w := by
  show (Op.intDiv .quo .i64 m n).run P w = _
  unfold Op.intDiv
  rw [if_neg h]
  rfl
theorem run_rem {t : TypeId} {m n : Int} (h : n ≠ 0) : (binOp .rem t (.int .i64 m) (.int .i64 n)).run P w = .ok (.int .i64 (m.tmod n)) w := by
  show (Op.intDiv .rem .i64 m n).run P w = _
  unfold Op.intDiv
  rw [if_neg h]
  rfl

theorem s_bin {op' : BinOp} {x' y' : Ar} (hc : chkOp P ρ o.op (.bin op' x' y') = true) (hf : FRel ρ σ a.tmps fr H.length) (hh : HRel ρ σ w H) (hv : vop P ρ fr H (.bin op' x' y') K) (hn : Nx ρ σ H w o a K next) : o.wp P a w next Q := by
  simp only [chkOp] at hc
  split at hc
  · rename_i op t x y yt ho
    simp only [Bool.and_eq_true, decide_eq_true_eq] at hc
    obtain ⟨⟨rfl, h1⟩, h2⟩ := hc
    simp only [vop] at hv
    unfold vbin at hv
    split at hv
    · rename_i m n hx hy
      obtain ⟨e1, -⟩ := chkAr_sound h1 hf hx
      obtain ⟨e2, -⟩ := chkAr_sound h2 hf hy
      have hrun : ∀ v, (binOp op t (.int .i64 m) (.int .i64 n)).run P w = .ok v w → (execOp a.eval o).run P w = .ok (.value v) w := by
        intro v h
        simp [execOp, ho, e1, e2, renS, ren, eqGuard_int, h]
      split at hv
      · obtain ⟨_, rfl, hv⟩ := hv; exact here hn hh hv rfl rfl (hrun _ rfl)
      · obtain ⟨_, rfl, hv⟩ := hv; exact here hn hh hv rfl rfl (hrun _ rfl)
      · obtain ⟨_, rfl, hv⟩ := hv; exact here hn hh hv rfl rfl (hrun _ rfl)
      · obtain ⟨h0, _, rfl, hv⟩ := hv; exact here hn hh hv rfl rfl (hrun (.int .i64 (w64 (m.tdiv n))) (run_quo h0))
      · obtain ⟨h0, _, rfl, hv⟩ := hv; exact here hn hh hv rfl rfl (hrun (.int .i64 (m.tmod n)) (run_rem h0))
      · exact here hn hh hv rfl rfl (hrun _ rfl)
      · exact here hn hh hv rfl rfl (hrun _ rfl)
      · exact here hn hh hv rfl rfl (hrun _ rfl)
      · exact here hn hh hv rfl rfl (hrun _ rfl)
      · exact here hn hh hv rfl rfl (hrun _ rfl)
      · exact here hn hh hv rfl rfl (hrun _ rfl)
      · exact hv.elim
    · rename_i m n hx hy
      obtain ⟨e1, -⟩ := chkAr_sound h1 hf hx
      obtain ⟨e2, -⟩ := chkAr_sound h2 hf hy
      have hrun : ∀ v, (binOp op t (.int .u8 (m.toNat : Int)) (.int .u8 (n.toNat : Int))).run P w = .ok v w → (execOp a.eval o).run P w = .ok (.value v) w := by
        intro v h
        simp [execOp, ho, e1, e2, renS, ren, eqGuard_int, h]
      split at hv
      · exact here hn hh hv rfl rfl (hrun _ (by simp [binOp, Op.intCmp, renS, ren, u8_beq]))
      · exact here hn hh hv rfl rfl (hrun _ (by simp [binOp, Op.intCmp, renS, ren, u8_bne]))
      · exact hv.elim
    · exact hv.elim
  · cases hc

theorem run_eqn {t e : TypeId} (h : P.underlying t = some (.slice e)) (A : Option Addr) (l c : Nat) : (Op.equal t (.slice A l c) (.slice none 0 0)).run P w = .ok A.isNone w := by
  have key : ∀ d, (Op.equalIn (d + 1) t (.slice A l c) (.slice none 0 0)).run P w = .ok A.isNone w := by
    intro d
    cases A <;> simp [Op.equalIn, run_underlying' h]
  exact key 9999

theorem s_eqn {neg : Bool} {y : Ar} (hc : chkOp P ρ o.op (.eqn neg y) = true) (hf : FRel ρ σ a.tmps fr H.length) (hh : HRel ρ σ w H) (hv : vop P ρ fr H (.eqn neg y) K) (hn : Nx ρ σ H w o a K next) : o.wp P a w next Q := by
  simp only [chkOp] at hc
  split at hc
  · rename_i op t x z yt ho
    simp only [Bool.and_eq_true, decide_eq_true_eq] at hc
    obtain ⟨⟨⟨rfl, h1⟩, h2⟩, h3⟩ := hc
    split at h1
    · rename_i e hu
      split at h2
      · have main : ∀ A l c, a.eval x = .slice A l c → (execOp a.eval o).run P w = .ok (.value (.bool (if neg then !A.isNone else A.isNone))) w := by
          intro A l c hx
          have h := run_eqn (w := w) hu A l c
          have ez : a.eval (.const (.slice none 0 0)) = .slice none 0 0 := rfl
          cases neg
          · simp only [Bool.false_eq_true, if_false] at ho ⊢
            simp only [execOp, ho, hx, ez, eqGuard, binOp, Sem.run_bind, Sem.run_pure]
            simp
            erw [h]
            cases A <;> rfl
          · simp only [if_true] at ho ⊢
            simp only [execOp, ho, hx, ez, eqGuard, binOp, Sem.run_bind, Sem.run_pure]
            simp
            erw [h]
            cases A <;> rfl
        simp only [vop] at hv
        split at hv
        · rename_i he
          obtain ⟨e1, -⟩ := chkAr_sound h3 hf he
          refine here hn hh hv rfl rfl ?_
          rw [main _ _ _ e1]
          cases neg <;> rfl
        · rename_i he
          obtain ⟨e1, -⟩ := chkAr_sound h3 hf he
          refine here hn hh hv rfl rfl ?_
          rw [main _ _ _ e1]
          cases neg <;> rfl
        · exact hv.elim
      · cases h2
    · cases h1
  · cases hc

theorem s_mkf {f' : Nat} {fs cs : List Ar} (hc : chkOp P ρ o.op (.mkf f' fs cs) = true) (hf : FRel ρ σ a.tmps fr H.length) (hh : HRel ρ σ w H) (hv : vop P ρ fr H (.mkf f' fs cs) K) (hn : Nx ρ σ H w o a K next) : o.wp P a w next Q := by
  simp only [vop] at hv
  split at hv
  · rename_i l1 l2 he1 he2
    simp only [chkOp] at hc
    split at hc
    · rename_i fn first caps ho
      simp only [Bool.and_eq_true] at hc
      obtain ⟨⟨h1, h2⟩, h3⟩ := hc
      obtain ⟨q1, m1⟩ := ptrs_sound h2 hf he1
      obtain ⟨q2, m2⟩ := ptrs_sound h3 hf he2
      split at h1
      · rename_i f
        simp only [beq_iff_eq] at h1
        have hl : (Sv.one (.fn f' l1 l2)).lt H.length = true := by
          simp only [Sv.lt, At.lt, Bool.and_eq_true, List.all_eq_true, decide_eq_true_eq]
          exact ⟨m1, m2⟩
        refine here hn hh hv hl rfl ?_
        have r1 : Array.map a.eval first = (List.map (pv σ) l1).toArray := by apply Array.ext'; rw [Array.toList_map, q1]
        have r2 : Array.map a.eval caps = (List.map (pv σ) l2).toArray := by apply Array.ext'; rw [Array.toList_map, q2]
        simp [execOp, ho, renS, ren, Instr.makeFunc, r1, r2, h1]
      · cases h1
    · cases hc
  · exact hv.elim

theorem s_add {y : Ar} {c : Nat} (hc : chkOp P ρ o.op (.add y c) = true) (hf : FRel ρ σ a.tmps fr H.length) (hh : HRel ρ σ w H) (hv : vop P ρ fr H (.add y c) K) (hn : Nx ρ σ H w o a K next) : o.wp P a w next Q := by
  simp only [vop] at hv
  split at hv
  · rename_i k off he
    simp only [chkOp] at hc
    split at hc
    · rename_i s x j ho
      simp only [Bool.and_eq_true] at hc
      obtain ⟨h1, h2⟩ := hc
      obtain ⟨e1, l1⟩ := chkAr_sound h1 hf he
      split at h2
      · rename_i fields hu
        split at h2
        · rename_i fd hfd
          simp only [Bool.and_eq_true, beq_iff_eq] at h2
          obtain ⟨h3, h4⟩ := h2
          split at h4
          · rename_i n hs
            have hn0 : n ≠ 0 := by simpa using h4
            refine here hn hh hv l1 rfl ?_
            simp [execOp, ho, e1, renS, ren, Instr.fieldAt, Sem.run_bind, run_underlying' hu, hfd, Instr.sureAddr, fieldPlace, run_sizeOf' hs, hn0, h3, add_mk]
          · cases h4
        · cases h2
      · cases h2
    · cases hc
  · exact hv.elim

theorem s_ext {y : Ar} {j : Nat} (hc : chkOp P ρ o.op (.ext y j) = true) (hf : FRel ρ σ a.tmps fr H.length) (hh : HRel ρ σ w H) (hv : vop P ρ fr H (.ext y j) K) (hn : Nx ρ σ H w o a K next) : o.wp P a w next Q := by
  simp only [vop] at hv
  split at hv
  · rename_i l he
    split at hv
    · rename_i v hl
      simp only [chkOp] at hc
      split at hc
      · rename_i x i ho
        simp only [Bool.and_eq_true, beq_iff_eq] at hc
        obtain ⟨rfl, h1⟩ := hc
        obtain ⟨e1, l1⟩ := chkAr_sound h1 hf he
        have hv1 : v.lt H.length = true := by
          simp only [Sv.lt, List.all_eq_true] at l1
          exact l1 v (List.mem_of_getElem? hl)
        refine here hn hh hv (v := .one v) hv1 rfl ?_
        simp [execOp, ho, e1, renS, Instr.extract, hl]
      · cases hc
    · exact hv.elim
  · exact hv.elim

theorem s_idx {y j : Ar} {len esz : Nat} (hc : chkOp P ρ o.op (.idx y j len esz) = true) (hf : FRel ρ σ a.tmps fr H.length) (hh : HRel ρ σ w H) (hv : vop P ρ fr H (.idx y j len esz) K) (hn : Nx ρ σ H w o a K next) : o.wp P a w next Q := by
  simp only [vop] at hv
  split at hv
  · rename_i k off z he1 he2
    obtain ⟨xx, _, rfl, hlt, rfl, hv⟩ := hv
    have z0 : (0 : Int) ≤ (xx : Int) := by omega
    have z1 : (xx : Int) < (len : Nat) := by omega
    simp only [chkOp] at hc
    split at hc
    · rename_i t x i ho
      simp only [Bool.and_eq_true] at hc
      obtain ⟨⟨h1, h2⟩, h3⟩ := hc
      obtain ⟨e1, l1⟩ := chkAr_sound h1 hf he1
      obtain ⟨e2, -⟩ := chkAr_sound h2 hf he2
      split at h3
      · rename_i l e hu
        simp only [Bool.and_eq_true, beq_iff_eq] at h3
        obtain ⟨rfl, hs⟩ := h3
        refine here hn hh hv l1 rfl ?_
        simp [execOp, ho, e1, e2, renS, ren, Instr.indexAt, asIntOf, Sem.run_bind, run_underlying' hu, Instr.sureAddr, z0, z1, hlt, run_sizeOf' hs, add_mk]
      · cases h3
    · cases hc
  · exact hv.elim

theorem s_ids {y j : Ar} {esz : Nat} (hc : chkOp P ρ o.op (.ids y j esz) = true) (hf : FRel ρ σ a.tmps fr H.length) (hh : HRel ρ σ w H) (hv : vop P ρ fr H (.ids y j esz) K) (hn : Nx ρ σ H w o a K next) : o.wp P a w next Q := by
  simp only [vop] at hv
  split at hv
  · rename_i k off len cap z he1 he2
    obtain ⟨xx, _, rfl, hlt, rfl, hv⟩ := hv
    have z0 : (0 : Int) ≤ (xx : Int) := by omega
    have z1 : (xx : Int) < (len : Nat) := by omega
    simp only [chkOp] at hc
    split at hc
    · rename_i t x i ho
      simp only [Bool.and_eq_true] at hc
      obtain ⟨⟨h1, h2⟩, h3⟩ := hc
      obtain ⟨e1, l1⟩ := chkAr_sound h1 hf he1
      obtain ⟨e2, -⟩ := chkAr_sound h2 hf he2
      split at h3
      · rename_i e hu
        simp only [beq_iff_eq] at h3
        refine here hn hh hv (v := .one (.pt k (off + xx * esz))) l1 rfl ?_
        simp [execOp, ho, e1, e2, renS, ren, Instr.indexAt, asIntOf, Sem.run_bind, run_underlying' hu, z0, z1, hlt, run_sizeOf' h3, add_mk]
      · cases h3
    · cases hc
  · exact hv.elim

theorem s_len {y : Ar} (hc : chkOp P ρ o.op (.len y) = true) (hf : FRel ρ σ a.tmps fr H.length) (hh : HRel ρ σ w H) (hv : vop P ρ fr H (.len y) K) (hn : Nx ρ σ H w o a K next) : o.wp P a w next Q := by
  simp only [chkOp] at hc
  split at hc
  · rename_i c ho
    simp only [Bool.and_eq_true] at hc
    obtain ⟨⟨h1, h2⟩, h3⟩ := hc
    have hcal : c.callee = .builtin .len := by
      split at h1
      · assumption
      · cases h1
    split at h2
    · rename_i x hx
      split at h3
      · rename_i t ht
        split at h3
        · rename_i e hu
          have hargs : c.args = #[x] := by rw [← Array.toList_inj]; simpa using hx
          have htys : c.argTypes = #[t] := by rw [← Array.toList_inj]; simpa using ht
          have hrun : ∀ A n c', a.eval x = .slice A n c' → (execOp a.eval o).run P w = .ok (.value (.int .i64 (n : Int))) w := by
            intro A n c' hx
            simp [execOp, ho, resolve, hcal, hargs, htys, invoke, builtin, Builtin.len_, Sem.run_bind, run_underlying' hu, hx, goInt]
          simp only [vop] at hv
          split at hv
          · rename_i k off n cap he
            obtain ⟨e1, -⟩ := chkAr_sound h2 hf he
            exact here hn hh hv rfl rfl (hrun _ _ _ e1)
          · rename_i he
            obtain ⟨e1, -⟩ := chkAr_sound h2 hf he
            refine here hn hh hv rfl rfl ?_
            rw [hrun _ _ _ e1]; rfl
          · exact hv.elim
        · cases h3
      · cases h3
    · cases h2
  · cases hc

/-! ### loads -/
theorem s_lda {y : Ar} {h n : Nat} (hc : chkOp P ρ o.op (.lda y h n) = true) (hf : FRel ρ σ a.tmps fr H.length) (hh : HRel ρ σ w H) (hv : vop P ρ fr H (.lda y h n) K) (hn : Nx ρ σ H w o a K next) : o.wp P a w next Q := by
  simp only [vop] at hv
  split at hv
  · rename_i k off he
    split at hv
    · rename_i r hd N f hk
      obtain ⟨T, hT⟩ := blk_of hh hk
      simp only [chkOp] at hc
      split at hc
      · rename_i t x ho
        simp only [Bool.and_eq_true, beq_iff_eq] at hc
        obtain ⟨h1, h2⟩ := hc
        obtain ⟨e1, -⟩ := chkAr_sound h2 hf he
        split at hv
        · obtain ⟨⟨b1, b2⟩, hv⟩ := hv
          refine here hn hh hv rfl rfl ?_
          have := run_loadAgg (P := P) (off := off) (g := fun j => cel [] (sh f off) j) h1 hT (fun j hj => by
            rw [cellsB_by, cellsOf_get _ _ _ _ (by omega), cel_by (by omega), cel_by (by simp)]; rfl)
          simp [execOp, ho, e1, renS, ren, Instr.loadAt, Instr.sureAddr, this, cellsOf]
        · cases off with
          | succ _ => exact hv.elim
          | zero =>
          cases hb : Nat.ble n N with
          | false => rw [hb] at hv; exact hv.elim
          | true =>
          rw [hb] at hv
          have b2 := Nat.le_of_ble_eq_true hb
          refine here hn hh hv rfl rfl ?_
          have := run_loadAgg (P := P) (off := 0) (g := fun j => cel hd f j) h1 hT (fun j hj => by
            rw [cellsB_by, Nat.zero_add, cellsOf_get _ _ _ _ (by omega)])
          simp [execOp, ho, e1, renS, ren, Instr.loadAt, Instr.sureAddr, this, cellsOf]
      · cases hc
    · exact hv.elim
  · exact hv.elim

theorem s_ld8 {y : Ar} (hc : chkOp P ρ o.op (.ld8 y) = true) (hf : FRel ρ σ a.tmps fr H.length) (hh : HRel ρ σ w H) (hv : vop P ρ fr H (.ld8 y) K) (hn : Nx ρ σ H w o a K next) : o.wp P a w next Q := by
  simp only [vop] at hv
  split at hv
  · rename_i k off he
    split at hv
    · rename_i r hd N f hk
      obtain ⟨T, hT⟩ := blk_of hh hk
      obtain ⟨⟨b1, b2⟩, hv⟩ := hv
      simp only [chkOp] at hc
      split at hc
      · rename_i t x ho
        simp only [Bool.and_eq_true] at hc
        obtain ⟨h1, h2⟩ := hc
        obtain ⟨e1, -⟩ := chkAr_sound h2 hf he
        refine here hn hh hv rfl rfl ?_
        have := run_loadOne (P := P) (off := off) h1 hT (by rw [cellsB_by, cellsOf_get _ _ _ _ b2, cel_by b1])
        simp [execOp, ho, e1, renS, ren, Instr.loadAt, Instr.sureAddr, this]
      · cases hc
    · exact hv.elim
  · exact hv.elim

theorem s_ld1 {y : Ar} (hc : chkOp P ρ o.op (.ld1 y) = true) (hf : FRel ρ σ a.tmps fr H.length) (hh : HRel ρ σ w H) (hv : vop P ρ fr H (.ld1 y) K) (hn : Nx ρ σ H w o a K next) : o.wp P a w next Q := by
  simp only [chkOp] at hc
  split at hc
  · rename_i t x ho
    simp only [Bool.and_eq_true] at hc
    obtain ⟨h1, h2⟩ := hc
    simp only [vop] at hv
    split at hv
    · rename_i k off he
      obtain ⟨e1, -⟩ := chkAr_sound h2 hf he
      have main : ∀ (c : Bk) (T : TypeId) (v : At), w.heap[σ k]? = some (.cells (cellsB ρ σ c) T (0, 0)) → (cellsB ρ σ c)[off]? = some (ren ρ σ v) → v.lt H.length = true → K (.one v) H → o.wp P a w next Q := by
        intro c T v hT hg hl hK
        refine here hn hh hK (v := .one v) hl rfl ?_
        have := run_loadOne (P := P) (off := off) h1 hT hg
        simp [execOp, ho, e1, renS, ren, Instr.loadAt, Instr.sureAddr, this]
      split at hv
      · rename_i r hd N f hk
        obtain ⟨T, hT⟩ := blk_of hh hk
        cases hb : Nat.blt off N with
        | false => rw [hb] at hv; exact hv.elim
        | true =>
        rw [hb] at hv
        have b1 : off < N := Nat.le_of_ble_eq_true hb
        simp only at hv
        split at hv
        · rename_i z hz
          exact main _ T (.i .i64 z) hT (by rw [cellsB_by, cellsOf_get _ _ _ _ b1, cel_hd hz]; rfl) rfl hv
        · exact hv.elim
      · rename_i r v hk
        obtain ⟨T, hT⟩ := blk_of hh hk
        cases off with
        | succ _ => exact hv.elim
        | zero =>
        have hl := hh.clo k _ hk
        simp only [Bk.lt, Bool.and_eq_true] at hl
        exact main _ T v hT (by simp [cellsB]) hl.1 hv
      · rename_i r l hk
        obtain ⟨T, hT⟩ := blk_of hh hk
        obtain ⟨v, hlv, hv⟩ := hv
        have hl := hh.clo k _ hk
        simp only [Bk.lt, List.all_eq_true, Bool.and_eq_true] at hl
        exact main _ T v hT (by simp [cellsB, hlv]) (hl v (List.mem_of_getElem? hlv)).1 hv
      · exact hv.elim
    · exact hv.elim
  · cases hc

theorem s_ixb {y j : Ar} {len : Nat} (hc : chkOp P ρ o.op (.ixb y j len) = true) (hf : FRel ρ σ a.tmps fr H.length) (hh : HRel ρ σ w H) (hv : vop P ρ fr H (.ixb y j len) K) (hn : Nx ρ σ H w o a K next) : o.wp P a w next Q := by
  simp only [vop] at hv
  split at hv
  · rename_i n f z he1 he2
    obtain ⟨xx, rfl, hlt, hlt2, hv⟩ := hv
    have z0 : (0 : Int) ≤ (xx : Int) := by omega
    have z1 : (xx : Int) < (len : Nat) := by omega
    simp only [chkOp] at hc
    split at hc
    · rename_i t x i ho
      simp only [Bool.and_eq_true] at hc
      obtain ⟨⟨h1, h2⟩, h3⟩ := hc
      obtain ⟨e1, l1⟩ := chkAr_sound h1 hf he1
      obtain ⟨e2, -⟩ := chkAr_sound h2 hf he2
      split at h3
      · rename_i l e hu
        simp only [Bool.and_eq_true, beq_iff_eq] at h3
        obtain ⟨⟨rfl, hs⟩, h1⟩ := h3
        refine here hn hh hv rfl rfl ?_
        have hg : (cellsOf [] n f)[xx]? = some (.int .u8 ((f xx).toNat : Int)) := by
          rw [cellsOf_get _ _ _ _ (by omega), cel_by (by simp)]
        simp [execOp, ho, e1, e2, renS, ren, Instr.index, asIntOf, Sem.run_bind, run_underlying' hu, z0, z1, hlt, run_sizeOf' hs, part, run_oneT h1, hg]
      · cases h3
    · cases hc
  · exact hv.elim

theorem s_ixa {y j : Ar} {len esz : Nat} (hc : chkOp P ρ o.op (.ixa y j len esz) = true) (hf : FRel ρ σ a.tmps fr H.length) (hh : HRel ρ σ w H) (hv : vop P ρ fr H (.ixa y j len esz) K) (hn : Nx ρ σ H w o a K next) : o.wp P a w next Q := by
  simp only [vop] at hv
  split at hv
  · rename_i n f z he1 he2
    obtain ⟨xx, rfl, hlt, hlt2, hv⟩ := hv
    have z0 : (0 : Int) ≤ (xx : Int) := by omega
    have z1 : (xx : Int) < (len : Nat) := by omega
    simp only [chkOp] at hc
    split at hc
    · rename_i t x i ho
      simp only [Bool.and_eq_true] at hc
      obtain ⟨⟨h1, h2⟩, h3⟩ := hc
      obtain ⟨e1, l1⟩ := chkAr_sound h1 hf he1
      obtain ⟨e2, -⟩ := chkAr_sound h2 hf he2
      split at h3
      · rename_i l e hu
        simp only [Bool.and_eq_true, beq_iff_eq] at h3
        obtain ⟨rfl, hs⟩ := h3
        obtain ⟨q1, q2⟩ := aggT_spec (w := w) hs
        refine here hn hh hv rfl rfl ?_
        have hg : (cellsOf [] n f).extract (xx * esz) (xx * esz + esz) = cellsOf [] esz (sh f (xx * esz)) := by
          apply Array.ext'
          unfold cellsOf
          simp only [Array.toList_extract, List.extract_eq_take_drop]
          apply cells_ext
          · simp; omega
          · intro x hx
            simp [cel, List.getElem?_drop, hx, show xx * esz + x < n by omega]
        simp [execOp, ho, e1, e2, renS, ren, Instr.index, asIntOf, Sem.run_bind, run_underlying' hu, z0, z1, hlt, run_sizeOf' q2, part, q1, hg]
      · cases h3
    · cases hc
  · exact hv.elim

end
end Hf
/- The engine, part 6: stores, new variables, values that are built. -/
namespace Hf
open Go

section
variable {P : Program} {ρ : Nat → FuncId} {σ : Nat → Nat} {H : List Blk} {w : World} {o : Oper} {a : Act} {fr : List (Nat × Sv)} {K : Sv → List Blk → Prop}
variable {next : Act → World → Prop} {Q : Exit → Act → World → Prop}

/-! ### stores -/
theorem store_at (hn : Nx ρ σ H w o a K next) (hh : HRel ρ σ w H) {k off : Nat} {c0 c : Bk} (hk : H[k]? = some ⟨false, c0⟩) (hl : c.lt H.length = true) (hK : K (.tup []) (H.set k ⟨false, c⟩))
    {t : TypeId} {x v : Operand} (ho : o.op = .store t x v) {u : Value} (hx : a.eval x = .pointer (some ⟨σ k, off, none⟩)) (hv : a.eval v = u)
    (hrun : (storeVar t ⟨σ k, off, none⟩ u).run P w = .ok () (w.setRow (σ k) (cellsB ρ σ c))) : o.wp P a w next Q := by
  refine skip_wp (w' := w.setRow (σ k) (cellsB ρ σ c)) ?_ ?_
  · simp [execOp, ho, hx, hv, Instr.storeAt, Instr.sureAddr, hrun]
  · have := hn (.tup []) _ σ _ hK (Sp_store hh hk hl) rfl
    exact this

theorem s_sta {y u : Ar} {n : Nat} (hc : chkOp P ρ o.op (.sta y u n) = true) (hf : FRel ρ σ a.tmps fr H.length) (hh : HRel ρ σ w H) (hv : vop P ρ fr H (.sta y u n) K) (hn : Nx ρ σ H w o a K next) : o.wp P a w next Q := by
  simp only [vop] at hv
  split at hv
  · rename_i k off hd' m g he1 he2
    split at hv
    · rename_i hd N f hk
      obtain ⟨T, hT⟩ := blk_of hh hk
      simp only [chkOp] at hc
      split at hc
      · rename_i t x v ho
        simp only [Bool.and_eq_true, beq_iff_eq] at hc
        obtain ⟨⟨h0, h1⟩, h2⟩ := hc
        obtain ⟨e1, -⟩ := chkAr_sound h1 hf he1
        obtain ⟨e2, -⟩ := chkAr_sound h2 hf he2
        split at hv
        · obtain ⟨⟨rfl, b1, b2⟩, hv⟩ := hv
          refine store_at hn hh hk (c := .by hd N (spl f off m g)) rfl hv ho e1 e2 ?_
          have := run_storeAll (P := P) (v := .agg (cellsOf [] m g)) h0 (cellsOf_size _ _ _) hT (by rw [cellsB_by, cellsOf_size]; exact b2) (cellsOf_one _ _ _)
          simp only [renS, ren]
          rw [this]
          simp only [cellsB_by, Value.cells]
          rw [spl_cells b1 b2]
        · rename_i z zs
          cases off with
          | succ _ => exact hv.elim
          | zero =>
          cases hb : (Nat.beq m n && Nat.beq n N && Nat.beq (z :: zs).length hd.length) with
          | false => rw [hb] at hv; exact hv.elim
          | true =>
          rw [hb] at hv
          simp only [Bool.and_eq_true] at hb
          obtain ⟨⟨hb1, hb2⟩, b2⟩ := hb
          obtain rfl := Nat.eq_of_beq_eq_true hb1
          obtain rfl := Nat.eq_of_beq_eq_true hb2
          refine store_at hn hh hk (c := .by (z :: zs) m g) rfl hv ho e1 e2 ?_
          have := run_storeAll (P := P) (off := 0) (v := .agg (cellsOf (z :: zs) m g)) h0 (cellsOf_size _ _ _) hT (by rw [cellsB_by, cellsOf_size]; omega) (cellsOf_one _ _ _)
          simp only [renS, ren]
          rw [this]
          simp only [cellsB_by, Value.cells]
          congr 2
          have hN : (cellsOf hd m f).toList.length = m := by simp [cellsOf]
          rw [List.take_zero, List.nil_append, List.drop_of_length_le (by omega), List.append_nil, Array.toArray_toList]
      · cases hc
    · exact hv.elim
  · exact hv.elim

theorem s_st8 {y u : Ar} (hc : chkOp P ρ o.op (.st8 y u) = true) (hf : FRel ρ σ a.tmps fr H.length) (hh : HRel ρ σ w H) (hv : vop P ρ fr H (.st8 y u) K) (hn : Nx ρ σ H w o a K next) : o.wp P a w next Q := by
  simp only [vop] at hv
  split at hv
  · rename_i k off c he1 he2
    split at hv
    · rename_i hd N f hk
      obtain ⟨T, hT⟩ := blk_of hh hk
      obtain ⟨⟨b1, b2⟩, hv⟩ := hv
      simp only [chkOp] at hc
      split at hc
      · rename_i t x v ho
        simp only [Bool.and_eq_true, beq_iff_eq] at hc
        obtain ⟨⟨h0, h1⟩, h2⟩ := hc
        obtain ⟨e1, -⟩ := chkAr_sound h1 hf he1
        obtain ⟨e2, -⟩ := chkAr_sound h2 hf he2
        refine store_at hn hh hk (c := .by hd N (upd f off c)) rfl hv ho e1 e2 ?_
        have := run_storeAll (P := P) (off := off) (v := .int .u8 (c.toNat : Int)) h0 rfl hT (by rw [cellsB_by, cellsOf_size]; omega) (by simp [Value.cells, Value.oneCell'])
        simp only [renS, ren]
        rw [this]
        simp only [cellsB_by, Value.cells]
        rw [← upd_cells b1 b2]
      · cases hc
    · exact hv.elim
  · exact hv.elim

theorem s_st1 {y u : Ar} (hc : chkOp P ρ o.op (.st1 y u) = true) (hf : FRel ρ σ a.tmps fr H.length) (hh : HRel ρ σ w H) (hv : vop P ρ fr H (.st1 y u) K) (hn : Nx ρ σ H w o a K next) : o.wp P a w next Q := by
  simp only [chkOp] at hc
  split at hc
  · rename_i t x v ho
    simp only [Bool.and_eq_true, beq_iff_eq] at hc
    obtain ⟨⟨h0, h1⟩, h2⟩ := hc
    simp only [vop] at hv
    split at hv
    · rename_i k off b he1 he2
      obtain ⟨e1, -⟩ := chkAr_sound h1 hf he1
      obtain ⟨e2, l2⟩ := chkAr_sound h2 hf he2
      have main : ∀ (c0 c : Bk) (T : TypeId), b.cell1 = true → H[k]? = some ⟨false, c0⟩ → w.heap[σ k]? = some (.cells (cellsB ρ σ c0) T (0, 0)) → c.lt H.length = true → off < (cellsB ρ σ c0).size →
          ((cellsB ρ σ c0).toList.take off ++ [ren ρ σ b] ++ (cellsB ρ σ c0).toList.drop (off + 1)).toArray = cellsB ρ σ c → K (.tup []) (H.set k ⟨false, c⟩) → o.wp P a w next Q := by
        intro c0 c T hb hk hT hl hlt heq hK
        refine store_at hn hh hk hl hK ho e1 e2 ?_
        obtain ⟨o1, o2⟩ := ren_one (ρ := ρ) (σ := σ) hb
        have := run_storeAll (P := P) (off := off) (v := ren ρ σ b) h0 (by rw [o2]; rfl) hT (by omega) (by rw [o2]; simpa using o1)
        simp only [renS]
        rw [this, o2, ← heq]
      split at hv
      · rename_i hd N f hk
        obtain ⟨T, hT⟩ := blk_of hh hk
        split at hv
        · rename_i z
          cases hb : (Nat.blt off hd.length && Nat.blt off N) with
          | false => rw [hb] at hv; exact hv.elim
          | true =>
          rw [hb] at hv
          simp only [Bool.and_eq_true] at hb
          have b1 : off < hd.length := Nat.le_of_ble_eq_true hb.1
          have b2 : off < N := Nat.le_of_ble_eq_true hb.2
          exact main _ (.by (hd.set off z) N f) T rfl hk hT rfl (by rw [cellsB_by, cellsOf_size]; exact b2) (by rw [cellsB_by, cellsB_by]; exact hdset_cells b1 b2) hv
        · exact hv.elim
      · rename_i c hk
        obtain ⟨T, hT⟩ := blk_of hh hk
        cases off with
        | succ _ => exact hv.elim
        | zero =>
        cases hb : b.cell1 with
        | false => rw [hb] at hv; exact hv.elim
        | true =>
        rw [hb] at hv
        exact main _ (.vr b) T hb hk hT (by simp [Bk.lt, hb]; exact l2) (by simp [cellsB]) (by simp [cellsB]) hv
      · rename_i l hk
        obtain ⟨T, hT⟩ := blk_of hh hk
        obtain ⟨⟨hlt, hb⟩, hv⟩ := hv
        refine main _ (.rw (l.set off b)) T hb hk hT ?_ (by simp [cellsB, hlt]) ?_ hv
        · have hl := hh.clo k _ hk
          simp only [Bk.lt, List.all_eq_true, Bool.and_eq_true] at hl ⊢
          intro c hc
          rcases List.mem_or_eq_of_mem_set hc with hc | rfl
          · exact hl c hc
          · exact ⟨l2, hb⟩
        · simp only [cellsB, List.map_set]
          rw [List.set_eq_take_append_cons_drop]
          simp [hlt]
      · exact hv.elim
    · exact hv.elim
  · cases hc

/-! ### new variables -/
theorem new_at (hn : Nx ρ σ H w o a K next) (hh : HRel ρ σ w H) {c : Bk} {T : TypeId} {v : Sv} (hl : c.lt H.length = true) (hv : v.lt (H.length + 1) = true) (hK : K v (H ++ [⟨false, c⟩]))
    {x : Value} (hx : x = renS ρ (setAt σ H.length w.heap.size) v)
    (hrun : (execOp a.eval o).run P w = .ok (.value x) { w with heap := w.heap.push (.cells (cellsB ρ σ c) T) }) : o.wp P a w next Q := by
  refine value_wp hrun ?_
  rw [hx]
  exact hn v _ _ _ hK (Sp_alloc hh c hl T) (by simpa using hv)

theorem zI_eq {v : Value} (h : zI v = true) : v = .int .i64 0 := by
  unfold zI at h
  split at h
  · simp only [Bool.and_eq_true, beq_iff_eq] at h; obtain ⟨rfl, rfl⟩ := h; rfl
  · cases h
theorem zU_eq {v : Value} (h : zU v = true) : v = .int .u8 0 := by
  unfold zU at h
  split at h
  · simp only [Bool.and_eq_true, beq_iff_eq] at h; obtain ⟨rfl, rfl⟩ := h; rfl
  · cases h
theorem zl_eq : ∀ (l : List Value) (h n : Nat), zl l h n = true → l.length = n ∧ ∀ x, x < n → l[x]? = some (if x < h then .int .i64 0 else .int .u8 0)
  | [], 0, 0, _ => by simp
  | v :: r, h + 1, n + 1, e => by
    simp only [zl, Bool.and_eq_true] at e
    obtain ⟨i1, i2⟩ := zl_eq r h n e.2
    refine ⟨by simp [i1], fun x hx => ?_⟩
    cases x with
    | zero => simp [zI_eq e.1]
    | succ x => rw [List.getElem?_cons_succ, i2 x (by omega)]; simp
  | v :: r, 0, n + 1, e => by
    simp only [zl, Bool.and_eq_true] at e
    obtain ⟨i1, i2⟩ := zl_eq r 0 n e.2
    refine ⟨by simp [i1], fun x hx => ?_⟩
    cases x with
    | zero => simp [zU_eq e.1]
    | succ x => rw [List.getElem?_cons_succ, i2 x (by omega)]; simp
  | [], _ + 1, _, e => by simp [zl] at e
  | [], 0, _ + 1, e => by simp [zl] at e
  | _ :: _, _, 0, e => by simp [zl] at e

theorem zcells_sound {v : Value} {z : Zk} (h : zcells v z = true) : v.cells = cellsB ρ σ z.bk ∧ z.bk.lt H.length = true := by
  unfold zcells at h
  split at h
  · rename_i cs hh n
    obtain ⟨h1, h2⟩ := zl_eq _ _ _ h
    refine ⟨?_, rfl⟩
    simp only [Value.cells, Zk.bk, cellsB, cellsOf]
    apply Array.ext'
    simp only
    apply cells_ext h1
    intro x hx
    rw [h2 x hx]
    unfold cel
    by_cases hx' : x < hh
    · simp [hx']
    · simp [hx']
  · simp only [Bool.and_eq_true, beq_iff_eq] at h; obtain ⟨rfl, rfl⟩ := h; exact ⟨rfl, rfl⟩
  · simp only [Bool.and_eq_true, beq_iff_eq] at h; obtain ⟨rfl, rfl⟩ := h; exact ⟨rfl, rfl⟩
  · simp only [Bool.not_eq_true'] at h; subst h; exact ⟨rfl, rfl⟩
  · exact ⟨rfl, rfl⟩
  · exact ⟨rfl, rfl⟩
  · cases h

theorem zeroOk_sound {t : TypeId} {z : Zk} (h : zeroOk P t z = true) : ∃ v, (zeroValue t).run P w = .ok v w ∧ v.cells = cellsB ρ σ z.bk ∧ z.bk.lt H.length = true := by
  unfold zeroOk at h
  split at h
  · rename_i v hv
    obtain ⟨i, hi, hz⟩ := Option.bind_eq_some_iff.1 hv
    obtain ⟨h1, h2⟩ := zcells_sound (ρ := ρ) (σ := σ) (H := H) h
    exact ⟨v, by simp [zeroValue, typeInfo, hi, hz], h1, h2⟩
  · cases h

theorem s_alo {z : Zk} (hc : chkOp P ρ o.op (.alo z) = true) (hf : FRel ρ σ a.tmps fr H.length) (hh : HRel ρ σ w H) (hv : vop P ρ fr H (.alo z) K) (hn : Nx ρ σ H w o a K next) : o.wp P a w next Q := by
  simp only [vop] at hv
  simp only [chkOp] at hc
  split at hc
  · rename_i t ho
    obtain ⟨v, h1, h2, h3⟩ := zeroOk_sound (ρ := ρ) (σ := σ) (H := H) (w := w) hc
    obtain ⟨_, rfl, hv⟩ := hv
    refine new_at (T := t) hn hh h3 (v := .one (.pt H.length 0)) (by simp [Sv.lt, At.lt]) hv (x := .pointer (some ⟨w.heap.size, 0, none⟩)) (by simp [renS, ren, setAt_same]) ?_
    simp [execOp, ho, Instr.alloc, h1, newVar, newRow, h2]
  · cases hc

/-! ### built values -/
theorem fold_set (off : Nat) : ∀ (l : List (Value × Nat)) (cs : Array Value), (l.foldl (fun cs (p : Value × Nat) => cs.setIfInBounds (off + p.2) p.1) cs).size = cs.size
  | [], _ => rfl
  | p :: l, cs => by rw [List.foldl_cons, fold_set off l]; simp

theorem fold_get (off : Nat) : ∀ (vs : List Value) (j : Nat) (cs : Array Value) (x : Nat), off + j + vs.length ≤ cs.size →
    ((vs.zipIdx j).foldl (fun cs (p : Value × Nat) => cs.setIfInBounds (off + p.2) p.1) cs)[x]? = if off + j ≤ x ∧ x < off + j + vs.length then vs[x - (off + j)]? else cs[x]?
  | [], j, cs, x, _ => by rw [if_neg (by simp only [List.length_nil]; omega)]; rfl
  | v :: vs, j, cs, x, h => by
    simp only [List.length_cons] at h
    rw [List.zipIdx_cons, List.foldl_cons, fold_get off vs (j + 1) _ x (by rw [Array.size_setIfInBounds]; omega)]
    by_cases h1 : x = off + j
    · subst h1
      rw [if_neg (by omega), if_pos (by simp)]
      have hlt : off + j < cs.size := by omega
      simp [hlt]
    · by_cases h2 : off + (j + 1) ≤ x ∧ x < off + (j + 1) + vs.length
      · rw [if_pos h2, if_pos (by simp only [List.length_cons]; omega)]
        have : x - (off + j) = (x - (off + (j + 1))) + 1 := by omega
        rw [this, List.getElem?_cons_succ]
      · rw [if_neg h2, if_neg (by simp only [List.length_cons]; omega), Array.getElem?_setIfInBounds_ne (Ne.symm h1)]

theorem fold_zip (off : Nat) (v cs : Array Value) : v.zipIdx.foldl (fun cs (x : Value × Nat) => match x with | (c, j) => cs.setIfInBounds (off + j) c) cs = (v.toList.zipIdx 0).foldl (fun cs (p : Value × Nat) => cs.setIfInBounds (off + p.2) p.1) cs := by
  rw [← Array.foldl_toList, Array.toList_zipIdx]

/-- one part laid in -/
theorem part_cells {hd hd' : List Int} {n : Nat} {f f' : By} {off : Nat} {v : Value} (hle : off + v.cells.size ≤ n)
    (hin : ∀ x, off ≤ x → x < off + v.cells.size → v.cells[x - off]? = some (cel hd' f' x)) (hout : ∀ x, x < off ∨ off + v.cells.size ≤ x → cel hd' f' x = cel hd f x) :
    v.cells.zipIdx.foldl (fun cs (x : Value × Nat) => match x with | (c, j) => cs.setIfInBounds (off + j) c) (cellsOf hd n f) = cellsOf hd' n f' := by
  rw [fold_zip]
  apply Array.ext_getElem?
  intro x
  rw [fold_get off _ 0 _ x (by rw [cellsOf_size]; simpa using hle)]
  simp only [Nat.add_zero, Array.length_toList]
  by_cases h : off ≤ x ∧ x < off + v.cells.size
  · rw [if_pos h]
    have := hin x h.1 h.2
    rw [cellsOf_get _ _ _ _ (by omega), ← this]
    simp
  · rw [if_neg h]
    by_cases hx : x < n
    · rw [cellsOf_get _ _ _ _ hx, cellsOf_get _ _ _ _ hx, hout x (by omega)]
    · rw [Array.getElem?_eq_none (by rw [cellsOf_size]; omega), Array.getElem?_eq_none (by rw [cellsOf_size]; omega)]

theorem cel_set {hd : List Int} {f : By} {off x : Nat} {z : Int} (h : off < hd.length) : cel (hd.set off z) f x = if x = off then .int .i64 z else cel hd f x := by
  unfold cel
  by_cases hx : x = off
  · subst hx; simp [h]
  · rw [List.getElem?_set_ne (Ne.symm hx), if_neg hx]

theorem lay_fill {n : Nat} {place : Nat → Option (Nat × Nat)} {K : Sv → Prop} : ∀ {xs : List (Nat × Operand)} {ps : List (Nat × Nat × Ar)} {hd : List Int} {f : By}, chkPs P ρ place xs ps = true → FRel ρ σ a.tmps fr H.length → lay fr K n ps hd f → hd.length ≤ n →
    ∃ hd' f', Instr.fill place (cellsOf hd n f) (xs.map fun p => (p.1, a.eval p.2)) = some (cellsOf hd' n f') ∧ K (.one (.ag hd' n f'))
  | [], [], hd, f, _, _, h, _ => ⟨hd, f, rfl, h⟩
  | (i, x) :: xs, (off, sz, y) :: ps, hd, f, hc, hf, h, hhd => by
    simp only [chkPs, Bool.and_eq_true] at hc
    obtain ⟨⟨h1, h2⟩, h3⟩ := hc
    split at h1
    · rename_i o' s hp
      simp only [Bool.and_eq_true, beq_iff_eq] at h1
      obtain ⟨rfl, rfl⟩ := h1
      have main : ∀ (v : Value) (hd' : List Int) (f' : By), a.eval x = v → hd'.length ≤ n → v.cells.size = s → o' + s ≤ n → (∀ x, o' ≤ x → x < o' + v.cells.size → v.cells[x - o']? = some (cel hd' f' x)) →
          (∀ x, x < o' ∨ o' + v.cells.size ≤ x → cel hd' f' x = cel hd f x) → lay fr K n ps hd' f' → ∃ hd'' f'', Instr.fill place (cellsOf hd n f) (((i, x) :: xs).map fun p => (p.1, a.eval p.2)) = some (cellsOf hd'' n f'') ∧ K (.one (.ag hd'' n f'')) := by
        intro v hd' f' hx hl hs hle hin hout hlay
        obtain ⟨hd'', f'', e1, e2⟩ := lay_fill (xs := xs) h3 hf hlay hl
        refine ⟨hd'', f'', ?_, e2⟩
        simp only [List.map_cons, Instr.fill, hp, hx, hs, cellsOf_size]
        rw [if_neg (by simp; omega)]
        rw [part_cells (by omega) hin hout]
        exact e1
      simp only [lay] at h
      split at h
      · rename_i z he
        obtain ⟨e1, -⟩ := chkAr_sound h2 hf he
        cases hb : (Nat.blt o' hd.length && Nat.beq s 1) with
        | false => rw [hb] at h; exact h.elim
        | true =>
        rw [hb] at h
        simp only [Bool.and_eq_true] at hb
        have b1 : o' < hd.length := Nat.le_of_ble_eq_true hb.1
        obtain rfl := Nat.eq_of_beq_eq_true hb.2
        refine main _ (hd.set o' z) f e1 (by simpa using hhd) rfl (by omega) ?_ ?_ h
        · intro u h1 h2
          have hu : u = o' := by simp [renS, ren, Value.cells] at h2; omega
          subst hu
          rw [cel_set b1, if_pos rfl]
          simp [renS, ren, Value.cells]
        · intro u hu
          rw [cel_set b1, if_neg]
          simp [renS, ren, Value.cells] at hu; omega
      · rename_i c he
        obtain ⟨e1, -⟩ := chkAr_sound h2 hf he
        cases hb : (Nat.ble hd.length o' && Nat.blt o' n && Nat.beq s 1) with
        | false => rw [hb] at h; exact h.elim
        | true =>
        rw [hb] at h
        simp only [Bool.and_eq_true] at hb
        have b1 := Nat.le_of_ble_eq_true hb.1.1
        have b2 : o' < n := Nat.le_of_ble_eq_true hb.1.2
        obtain rfl := Nat.eq_of_beq_eq_true hb.2
        refine main _ hd (upd f o' c) e1 hhd rfl (by omega) ?_ ?_ h
        · intro u h1 h2
          have hu : u = o' := by simp [renS, ren, Value.cells] at h2; omega
          subst hu
          rw [cel_by b1, upd_same]
          simp [renS, ren, Value.cells]
        · intro u hu
          unfold cel
          rw [upd_ne]
          simp [renS, ren, Value.cells] at hu; omega
      · rename_i m g he
        obtain ⟨e1, -⟩ := chkAr_sound h2 hf he
        cases hb : (Nat.ble hd.length o' && Nat.ble (o' + m) n && Nat.beq s m) with
        | false => rw [hb] at h; exact h.elim
        | true =>
        rw [hb] at h
        simp only [Bool.and_eq_true] at hb
        have b1 := Nat.le_of_ble_eq_true hb.1.1
        have b2 := Nat.le_of_ble_eq_true hb.1.2
        obtain rfl := Nat.eq_of_beq_eq_true hb.2
        refine main _ hd (spl f o' s g) e1 hhd (by simp [renS, ren, Value.cells, cellsOf_size]) b2 ?_ ?_ h
        · intro u h1 h2
          simp only [renS, ren, Value.cells, cellsOf_size] at h2 ⊢
          rw [cellsOf_get _ _ _ _ (by omega), cel_by (hd := hd) (by omega), cel_by (by simp)]
          simp [spl, h1, h2]
        · intro u hu
          simp only [renS, ren, Value.cells, cellsOf_size] at hu
          unfold cel spl
          rw [if_neg (by omega)]
      · exact h.elim
    · cases h1
  | [], _ :: _, _, _, hc, _, _, _ => by simp [chkPs] at hc
  | _ :: _, [], _, _, hc, _, _, _ => by simp [chkPs] at hc

theorem mapM_fields {fields : List Field} (h : fields.all (fun f => (sizeT P f.type).isSome) = true) :
    (fields.mapM (m := Sem) fun f => do pure (f.offset, ← Go.sizeOf f.type)).run P w = .ok (fields.map fun f => (f.offset, (sizeT P f.type).getD 0)) w := by
  induction fields with
  | nil => rfl
  | cons f r ih =>
    simp only [List.all_cons, Bool.and_eq_true] at h
    obtain ⟨n, hn⟩ := Option.isSome_iff_exists.1 h.1
    rw [List.mapM_cons]
    simp only [Sem.run_bind, run_sizeOf' hn, Result.andThen_ok, Sem.run_pure, ih h.2, List.map_cons, hn, Option.getD_some]

theorem zl_le : ∀ (l : List Value) (h n : Nat), zl l h n = true → h ≤ n
  | [], 0, _, _ => by omega
  | [], _ + 1, _, e => by simp [zl] at e
  | _ :: _, 0, _, _ => by omega
  | _ :: _, _ + 1, 0, e => by simp [zl] at e
  | _ :: r, h + 1, n + 1, e => by
    simp only [zl, Bool.and_eq_true] at e
    have := zl_le r h n e.2
    omega
theorem zeroOk_le {t : TypeId} {h n : Nat} (h0 : zeroOk P t (.by h n) = true) : h ≤ n := by
  unfold zeroOk at h0
  cases hz : (P.info? t).bind (·.zero) with
  | none => rw [hz] at h0; cases h0
  | some v =>
    rw [hz] at h0
    cases v with
    | agg cs => exact zl_le _ _ _ h0
    | pointer q => cases q <;> cases h0
    | slice q l c => cases q <;> simp [zcells] at h0
    | _ => cases h0

theorem s_bld {h n : Nat} {ps : List (Nat × Nat × Ar)} (hc : chkOp P ρ o.op (.bld h n ps) = true) (hf : FRel ρ σ a.tmps fr H.length) (hh : HRel ρ σ w H) (hv : vop P ρ fr H (.bld h n ps) K) (hn : Nx ρ σ H w o a K next) : o.wp P a w next Q := by
  simp only [vop] at hv
  simp only [chkOp] at hc
  split at hc
  · rename_i t parts ho
    simp only [Bool.and_eq_true] at hc
    obtain ⟨h0, h1⟩ := hc
    obtain ⟨z, hz1, hz2, -⟩ := zeroOk_sound (ρ := ρ) (σ := σ) (H := H) (w := w) h0
    have hz : z.cells = cellsOf (List.replicate h 0) n (fun _ => 0) := hz2
    have hhn : h ≤ n := zeroOk_le h0
    have fin : ∀ (place : Nat → Option (Nat × Nat)), chkPs P ρ place parts.toList ps = true →
        (∀ cells, Instr.fill place z.cells ((parts.map fun p => (p.1, a.eval p.2)).toList) = some cells → (execOp a.eval o).run P w = .ok (.value (.agg cells)) w) → o.wp P a w next Q := by
      intro place hps hrun
      obtain ⟨hd', f', e1, e2⟩ := lay_fill (a := a) (n := n) hps hf hv (by simpa using hhn)
      refine here hn hh e2 rfl rfl ?_
      refine hrun _ ?_
      rw [hz, Array.toList_map]
      exact e1
    split at h1
    · rename_i fields hu
      simp only [Bool.and_eq_true] at h1
      obtain ⟨h2, h3⟩ := h1
      have h3' : fields.toList.all (fun f => (sizeT P f.type).isSome) = true := by rw [← h3]; simp
      refine fin _ h2 ?_
      intro cells hfill
      have hm : (fields.mapM (m := Sem) fun f => do pure (f.offset, ← Go.sizeOf f.type)).run P w = .ok (fields.toList.map fun f => (f.offset, (sizeT P f.type).getD 0)).toArray w := by
        rw [Array.mapM_eq_mapM_toList, Sem.run_map, mapM_fields h3', Result.andThen_ok]
      have hpl : (fun (i : Nat) => (fields.toList.map fun f => (f.offset, (sizeT P f.type).getD 0)).toArray[i]?) = (fun (i : Nat) => match fields[i]? with | some (f : Field) => (match sizeT P f.type with | some s => some (f.offset, s) | none => none) | none => none) := by
        funext i
        simp only [List.getElem?_toArray, List.getElem?_map, Array.getElem?_toList]
        cases hfi : fields[i]? with
        | none => rfl
        | some f =>
          have hmem : f ∈ fields.toList := by
            rw [Array.mem_toList_iff]; exact Array.mem_of_getElem? hfi
          obtain ⟨s, hs⟩ := Option.isSome_iff_exists.1 (List.all_eq_true.1 h3' f hmem)
          simp [hs]
      simp only [execOp, ho, Instr.build, Sem.run_bind, hz1, Result.andThen_ok, run_underlying' hu, hm]
      rw [hpl]
      split
      · rename_i c heq
        have := heq.symm.trans hfill
        cases this
        rfl
      · rename_i hne
        exact absurd hfill (hne _)
    · rename_i l e hu
      split at h1
      · rename_i s hs
        refine fin _ h1 ?_
        intro cells hfill
        simp only [execOp, ho, Instr.build, Sem.run_bind, hz1, Result.andThen_ok, run_underlying' hu, run_sizeOf' hs]
        split
        · rename_i c heq
          have := heq.symm.trans hfill
          cases this
          rfl
        · rename_i hne
          exact absurd hfill (hne _)
      · cases h1
    · cases h1
  · cases hc

theorem s_box {y : Ar} (hc : chkOp P ρ o.op (.box y) = true) (hf : FRel ρ σ a.tmps fr H.length) (hh : HRel ρ σ w H) (hv : vop P ρ fr H (.box y) K) (hn : Nx ρ σ H w o a K next) : o.wp P a w next Q := by
  simp only [chkOp] at hc
  split at hc
  · rename_i t x ho
    have main : ∀ (c : Bk) (v : Value), a.eval x = v → v.cells = cellsB ρ σ c → c.lt H.length = true → K (.one (.pt H.length 0)) (H ++ [⟨false, c⟩]) → o.wp P a w next Q := by
      intro c v hx hcs hl hK
      refine new_at (T := t) hn hh hl (v := .one (.pt H.length 0)) (by simp [Sv.lt, At.lt]) hK (x := .pointer (some ⟨w.heap.size, 0, none⟩)) (by simp [renS, ren, setAt_same]) ?_
      simp [execOp, ho, Instr.box, newVar, newRow, hx, hcs]
    simp only [vop] at hv
    split at hv
    · rename_i hd n f he
      obtain ⟨e1, -⟩ := chkAr_sound hc hf he
      obtain ⟨_, rfl, hv⟩ := hv
      exact main (.by hd n f) _ e1 rfl rfl hv
    · rename_i v hne he
      obtain ⟨e1, l1⟩ := chkAr_sound hc hf he
      have h1 : v.cell1 = true := by
        cases v <;> first | rfl | exact (hne _ _ _ rfl).elim
      obtain ⟨_, rfl, hv⟩ := hv
      refine main (.vr v) _ e1 (ren_one h1).2 ?_ hv
      simp only [Bk.lt, Bool.and_eq_true]
      exact ⟨l1, h1⟩
    · exact hv.elim
  · cases hc

end
end Hf
/- The engine, part 7: arrays compared; slices that are built, and cut. -/
namespace Hf
open Go

section
variable {P : Program} {ρ : Nat → FuncId} {σ : Nat → Nat} {H : List Blk} {w : World} {o : Oper} {a : Act} {fr : List (Nat × Sv)} {K : Sv → List Blk → Prop}
variable {next : Act → World → Prop} {Q : Exit → Act → World → Prop}

theorem eqB_iff {n : Nat} {f g : By} : eqB n f g = true ↔ ∀ x, x < n → f x = g x := by
  simp [eqB, List.all_eq_true, List.mem_range]

theorem eqB_blocks (len m : Nat) (f g : By) : eqB (len * m) f g = (List.range' 0 len).all fun i => eqB m (sh f (i * m)) (sh g (i * m)) := by
  rw [Bool.eq_iff_iff, eqB_iff, List.all_eq_true]
  constructor
  · intro h i hi
    rw [eqB_iff]
    intro x hx
    simp only [List.mem_range'_1, Nat.zero_add] at hi
    refine h _ ?_
    calc i * m + x < i * m + m := by omega
      _ = (i + 1) * m := by rw [Nat.add_mul, Nat.one_mul]
      _ ≤ len * m := Nat.mul_le_mul_right m (by omega)
  · intro h x hx
    have hm : 0 < m := by
      rcases Nat.eq_zero_or_pos m with rfl | h
      · simp at hx
      · exact h
    have hi : x / m < len := by rw [Nat.div_lt_iff_lt_mul hm]; exact hx
    have := h (x / m) (by simp only [List.mem_range'_1, Nat.zero_add]; exact ⟨Nat.zero_le _, hi⟩)
    rw [eqB_iff] at this
    have h2 := this (x % m) (Nat.mod_lt _ hm)
    simp only [sh] at h2
    have e : x / m * m + x % m = x := by rw [Nat.mul_comm]; exact Nat.div_add_mod x m
    rwa [e] at h2

theorem loop_all {E : Nat → Sem Bool} {b : Nat → Bool} : ∀ (l : List Nat), (∀ i ∈ l, (E i).run P w = .ok (b i) w) →
    (forIn (m := Sem) l ((none, ()) : Option Bool × Unit) fun i _ => do
      let r ← E i
      if (!r) = true then pure (ForInStep.done (some false, ())) else pure (ForInStep.yield (none, ()))).run P w = .ok (if l.all b then (none, ()) else (some false, ())) w
  | [], _ => rfl
  | i :: l, h => by
    rw [List.forIn_cons]
    simp only [Sem.run_bind, h i (by simp), Result.andThen_ok]
    cases hb : b i
    · simp [hb]
    · simp only [Bool.not_true, Bool.false_eq_true, if_false, Sem.run_pure, Result.andThen_ok]
      rw [loop_all l fun j hj => h j (by simp [hj])]
      simp [hb]

theorem part_arr {e : TypeId} {m : Nat} (hs : sizeT P e = some m) {d : TypeDesc} (hu : P.underlying e = some d) (hd : aggB d = true) {n i : Nat} {f : By} (hle : i * m + m ≤ n) :
    (part e (cellsOf [] n f) (i * m)).run P w = .ok (.agg (cellsOf [] m (sh f (i * m)))) w := by
  unfold part
  rw [Sem.run_bind, run_isAgg' hu, hd]
  simp only [Result.andThen_ok, if_true, Sem.run_bind, run_sizeOf' hs, Sem.run_pure]
  congr 2
  apply Array.ext'
  unfold cellsOf
  simp only [Array.toList_extract, List.extract_eq_take_drop]
  apply cells_ext
  · simp; omega
  · intro x hx
    simp [cel, List.getElem?_drop, hx, show i * m + x < n by omega]

theorem part_u8 {e : TypeId} (h1 : oneT P e = true) {n i : Nat} {f : By} (hlt : i < n) :
    (part e (cellsOf [] n f) i).run P w = .ok (.int .u8 ((f i).toNat : Int)) w := by
  unfold part
  rw [Sem.run_bind, run_oneT h1]
  simp only [Result.andThen_ok, Bool.false_eq_true, if_false]
  rw [cellsOf_get _ _ _ _ hlt, cel_by (by simp)]
  rfl

theorem eq_arr : ∀ (d : Nat) (t : TypeId) (n : Nat), arrT P d t n = true → (∃ len e, P.underlying t = some (.array len e)) → ∀ D, d ≤ D → ∀ f g, (Op.equalIn D t (.agg (cellsOf [] n f)) (.agg (cellsOf [] n g))).run P w = .ok (eqB n f g) w
  | 0, _, _, h, _, _, _, _, _ => by simp [arrT] at h
  | d + 1, t, n, h, ⟨len, e, hu⟩, D, hD, f, g => by
    obtain ⟨D, rfl⟩ : ∃ D', D = D' + 1 := ⟨D - 1, by omega⟩
    simp only [arrT, hu, Bool.and_eq_true] at h
    obtain ⟨-, h⟩ := h
    split at h
    · rename_i m hs
      simp only [Bool.and_eq_true, beq_iff_eq] at h
      obtain ⟨⟨rfl, h1⟩, h2⟩ := h
      unfold Op.equalIn
      simp only [Sem.run_bind, run_underlying' hu, Result.andThen_ok, run_sizeOf' hs, Std.Legacy.Range.forIn_eq_forIn_range']
      have hsz : ([:len] : Std.Legacy.Range).size = len := by simp [Std.Legacy.Range.size]
      rw [hsz]
      have hbl := eqB_blocks len m f g
      have body : ∀ i ∈ List.range' 0 len, ((do
          let x ← part e (cellsOf [] (len * m) f) (i * m)
          let y ← part e (cellsOf [] (len * m) g) (i * m)
          Op.equalIn D e x y : Sem Bool)).run P w = .ok (eqB m (sh f (i * m)) (sh g (i * m))) w := by
        intro i hi
        simp only [List.mem_range'_1, Nat.zero_add] at hi
        have hle : i * m + m ≤ len * m := by
          calc i * m + m = (i + 1) * m := by rw [Nat.add_mul, Nat.one_mul]
            _ ≤ len * m := Nat.mul_le_mul_right m (by omega)
        split at h2
        · rename_i k hk
          have ho : oneT P e = true := by simp [oneT, hk, aggB]
          cases d with
          | zero => simp [arrT] at h1
          | succ d =>
            simp only [arrT, hk, Bool.and_eq_true] at h1
            obtain ⟨-, h1⟩ := h1
            have hk8 : k = .u8 ∧ m = 1 := by
              split at h1
              · rename_i heq; cases heq; exact ⟨rfl, by simpa using h1⟩
              · rename_i heq; cases heq
              · cases h1
            obtain ⟨rfl, rfl⟩ := hk8
            obtain ⟨D, rfl⟩ : ∃ D', D = D' + 1 := ⟨D - 1, by omega⟩
            simp only [Nat.mul_one] at hle ⊢
            simp only [Sem.run_bind, part_u8 ho (show i < len by omega), Result.andThen_ok]
            unfold Op.equalIn
            simp only [Sem.run_bind, run_underlying' hk, Result.andThen_ok, if_true, Sem.run_pure, u8_beq]
            congr 1
            simp [eqB, sh]
        · rename_i l' e' hk
          simp only [Sem.run_bind, part_arr hs hk rfl hle, Result.andThen_ok]
          exact eq_arr d e m h1 ⟨l', e', hk⟩ D (by omega) _ _
        · cases h2
      have := loop_all (P := P) (w := w) (b := fun i => eqB m (sh f (i * m)) (sh g (i * m))) (List.range' 0 len) body
      simp only [bind_assoc] at this
      rw [this, hbl]
      simp only [Result.andThen_ok]
      generalize ((List.range' 0 len).all fun i => eqB m (sh f (i * m)) (sh g (i * m))) = B
      cases B <;> rfl
    · cases h

theorem s_eqa {neg : Bool} {n : Nat} {x' y' : Ar} (hc : chkOp P ρ o.op (.eqa neg n x' y') = true) (hf : FRel ρ σ a.tmps fr H.length) (hh : HRel ρ σ w H) (hv : vop P ρ fr H (.eqa neg n x' y') K) (hn : Nx ρ σ H w o a K next) : o.wp P a w next Q := by
  simp only [vop] at hv
  split at hv
  · rename_i m f m' g hx hy
    cases hb : (Nat.beq m n && Nat.beq m' n) with
    | false => rw [hb] at hv; exact hv.elim
    | true =>
    rw [hb] at hv
    simp only [Bool.and_eq_true] at hb
    obtain rfl := Nat.eq_of_beq_eq_true hb.1
    obtain rfl := Nat.eq_of_beq_eq_true hb.2
    simp only [chkOp] at hc
    split at hc
    · rename_i op t x y yt ho
      simp only [Bool.and_eq_true, decide_eq_true_eq, Bool.not_eq_true'] at hc
      obtain ⟨⟨⟨⟨⟨rfl, h0⟩, h1⟩, h2⟩, h3⟩, h4⟩ := hc
      obtain ⟨e1, -⟩ := chkAr_sound h3 hf hx
      obtain ⟨e2, -⟩ := chkAr_sound h4 hf hy
      have hu : ∃ len e, P.underlying t = some (.array len e) := by
        split at h1
        · rename_i l e hu; exact ⟨l, e, hu⟩
        · cases h1
      have heq := eq_arr (w := w) 20 t _ h0 hu Op.maxDepth (by decide) f g
      refine here hn hh hv rfl rfl ?_
      cases neg
      · simp [execOp, ho, e1, e2, renS, ren, eqGuard, h2, binOp, Op.equal, heq]
      · simp [execOp, ho, e1, e2, renS, ren, eqGuard, h2, binOp, Op.equal, heq]
    · cases hc
  · exact hv.elim

/-! ### slices -/
theorem fill_one {a : Act} : ∀ {xs : List (Nat × Operand)} {ys : List Ar} {l : List At} {j : Nat} {cs : Array Value}, chkSeq ρ j xs ys = true → FRel ρ σ a.tmps fr H.length → atoms (ys.map (ev fr)) = some l → (∀ b ∈ l, b.cell1 = true) →
    cs.size = j + l.length → (Instr.fill (fun i => some (i * 1, 1)) cs (xs.map fun p => (p.1, a.eval p.2)) = some (cs.toList.take j ++ l.map (ren ρ σ)).toArray) ∧ ∀ b ∈ l, b.lt H.length = true
  | [], [], l, j, cs, _, _, h, _, hs => by
    simp [atoms] at h; subst h
    simp only [List.length_nil, Nat.add_zero] at hs
    refine ⟨?_, by simp⟩
    simp only [Instr.fill, List.map_nil, List.append_nil, Option.some.injEq]
    rw [List.take_of_length_le (by simp; omega)]
  | (i, x) :: xs, y :: ys, l, j, cs, hc, hf, h, h1, hs => by
    simp only [chkSeq, Bool.and_eq_true, beq_iff_eq] at hc
    obtain ⟨⟨rfl, c1⟩, c2⟩ := hc
    simp only [List.map_cons] at h
    unfold atoms at h
    split at h
    · rename_i heq; simp at heq
    · rename_i a0 r heq
      simp only [List.cons.injEq] at heq
      obtain ⟨q1, q2⟩ := heq
      subst q2
      split at h
      · rename_i l' hl'
        simp only [Option.some.injEq] at h; subst h
        obtain ⟨e1, l1⟩ := chkAr_sound c1 hf q1
        have hc1 := h1 a0 (by simp)
        obtain ⟨o1, o2⟩ := ren_one (ρ := ρ) (σ := σ) hc1
        simp only [List.length_cons] at hs
        have ih := fill_one (cs := cs.setIfInBounds i (ren ρ σ a0)) c2 hf hl' (fun b hb => h1 b (by simp [hb])) (by simp; omega)
        refine ⟨?_, ?_⟩
        · simp only [List.map_cons, Instr.fill, e1, renS, o2, Nat.mul_one]
          rw [if_neg (by simp; omega)]
          have hz : (#[ren ρ σ a0] : Array Value).zipIdx.foldl (fun cs (x : Value × Nat) => match x with | (c, j) => cs.setIfInBounds (i + j) c) cs = cs.setIfInBounds i (ren ρ σ a0) := by
            rw [fold_zip]; simp
          have e := ih.1
          simp only [Nat.mul_one] at e
          rw [hz, e]
          congr 1
          rw [Array.toList_setIfInBounds]
          have : (cs.toList.set i (ren ρ σ a0)).take (i + 1) = cs.toList.take i ++ [ren ρ σ a0] := by
            rw [List.take_add_one, List.getElem?_set_self (by simp; omega), List.take_set_of_le (Nat.le_refl _)]
            rfl
          rw [this]
          simp
        · intro b hb
          rcases List.mem_cons.1 hb with rfl | hb
          · exact l1
          · exact ih.2 b hb
      · cases h
    · cases h
  | [], _ :: _, _, _, _, hc, _, _, _, _ => by simp [chkSeq] at hc
  | _ :: _, [], _, _, _, hc, _, _, _, _ => by simp [chkSeq] at hc

theorem atoms_length : ∀ {ys : List Ar} {l : List At}, atoms (ys.map (ev fr)) = some l → l.length = ys.length
  | [], l, h => by simp [atoms] at h; subst h; rfl
  | y :: ys, l, h => by
    simp only [List.map_cons] at h
    unfold atoms at h
    split at h
    · rename_i heq; simp at heq
    · rename_i a0 r heq
      simp only [List.cons.injEq] at heq
      obtain ⟨q1, q2⟩ := heq
      subst q2
      split at h
      · rename_i l' hl'
        simp only [Option.some.injEq] at h; subst h
        simp [atoms_length hl']
      · cases h
    · cases h

theorem s_bsa {ys : List Ar} (hc : chkOp P ρ o.op (.bsa ys) = true) (hf : FRel ρ σ a.tmps fr H.length) (hh : HRel ρ σ w H) (hv : vop P ρ fr H (.bsa ys) K) (hn : Nx ρ σ H w o a K next) : o.wp P a w next Q := by
  simp only [vop] at hv
  split at hv
  · rename_i l hl
    cases h1 : l.all At.cell1 with
    | false => rw [h1] at hv; exact hv.elim
    | true =>
    rw [h1] at hv
    obtain ⟨_, rfl, hv⟩ := hv
    have hlen := atoms_length hl
    simp only [chkOp] at hc
    split at hc
    · rename_i t len parts ho
      simp only [Bool.and_eq_true, beq_iff_eq, decide_eq_true_eq] at hc
      obtain ⟨⟨⟨rfl, c0⟩, c1⟩, c2⟩ := hc
      split at c2
      · rename_i e hu
        simp only [Bool.and_eq_true, beq_iff_eq] at c2
        obtain ⟨c2, c3⟩ := c2
        split at c3
        · rename_i z hz
          obtain ⟨i0, hi, hz'⟩ := Option.bind_eq_some_iff.1 hz
          have hzv : (zeroValue e).run P w = .ok z w := by simp [zeroValue, typeInfo, hi, hz']
          have h1' : ∀ b ∈ l, b.cell1 = true := List.all_eq_true.1 h1
          have hzero : ∀ (zs : Array Value), (Instr.fill (fun i => some (i * 1, 1)) ((Array.range (ys.length * 1)).map (zs[· % zs.size]!)) ((parts.map fun p => (p.1, a.eval p.2)).toList) = some (l.map (ren ρ σ)).toArray) ∧ ∀ b ∈ l, b.lt H.length = true := by
            intro zs
            have := fill_one (a := a) (j := 0) (cs := (Array.range (ys.length * 1)).map (zs[· % zs.size]!)) c1 hf hl h1' (by simp [hlen])
            refine ⟨?_, this.2⟩
            rw [Array.toList_map, this.1]
            simp
          refine new_at (c := .rw l) (T := e) hn hh ?_ (v := .one (.sl H.length 0 ys.length ys.length)) (by simp [Sv.lt, At.lt]) hv (x := .slice (some ⟨w.heap.size, 0, none⟩) ys.length ys.length) (by simp [renS, ren, setAt_same]) ?_
          · simp only [Bk.lt, List.all_eq_true, Bool.and_eq_true]
            exact fun b hb => ⟨(hzero #[]).2 b hb, h1' b hb⟩
          · simp only [execOp, ho, Instr.buildSlice, Sem.run_bind, run_underlying' hu, Result.andThen_ok, run_sizeOf' c2]
            rw [if_neg (by omega)]
            by_cases h0 : ys.length * 1 = 0
            · simp only [h0, if_true, Sem.run_bind, Sem.run_pure, Result.andThen_ok]
              have := (hzero #[]).1
              rw [h0] at this
              rw [this]
              simp [newRow, cellsB]
            · simp only [h0, if_false, Sem.run_bind, hzv, Sem.run_pure, Result.andThen_ok]
              rw [(hzero z.cells).1]
              simp [newRow, cellsB]
        · cases c3
      · cases c2
    · cases hc
  · exact hv.elim

theorem fill_b {a : Act} {esz N : Nat} {K : By → Prop} : ∀ {xs : List (Nat × Operand)} {ys : List Ar} {j : Nat} {f : By}, chkSeq ρ j xs ys = true → FRel ρ σ a.tmps fr H.length → layb fr K esz ys j f → (j + ys.length) * esz ≤ N →
    ∃ f', Instr.fill (fun i => some (i * esz, esz)) (cellsOf [] N f) (xs.map fun p => (p.1, a.eval p.2)) = some (cellsOf [] N f') ∧ K f'
  | [], [], j, f, _, _, h, _ => ⟨f, rfl, h⟩
  | (i, x) :: xs, y :: ys, j, f, hc, hf, h, hle => by
    simp only [chkSeq, Bool.and_eq_true, beq_iff_eq] at hc
    obtain ⟨⟨rfl, c1⟩, c2⟩ := hc
    simp only [layb] at h
    split at h
    · rename_i m g he
      cases hb : Nat.beq m esz with
      | false => rw [hb] at h; exact h.elim
      | true =>
      rw [hb] at h
      obtain rfl := Nat.eq_of_beq_eq_true hb
      obtain ⟨e1, -⟩ := chkAr_sound c1 hf he
      simp only [List.length_cons] at hle
      obtain ⟨f', q1, q2⟩ := fill_b c2 hf h (by rw [show i + 1 + ys.length = i + (ys.length + 1) by omega]; exact hle)
      refine ⟨f', ?_, q2⟩
      have hm : i * m + m ≤ N := by
        have : (i + 1) * m ≤ (i + (ys.length + 1)) * m := Nat.mul_le_mul_right m (by omega)
        rw [Nat.add_mul, Nat.one_mul] at this
        omega
      simp only [List.map_cons, Instr.fill, e1, renS, ren, Value.cells, cellsOf_size]
      rw [if_neg (by simp; omega)]
      have := part_cells (hd := []) (hd' := []) (n := N) (f := f) (f' := spl f (i * m) m g) (off := i * m) (v := .agg (cellsOf [] m g)) (by simp [Value.cells, cellsOf_size]; exact hm) (by
        intro u h1 h2
        simp only [Value.cells, cellsOf_size] at h2 ⊢
        rw [cellsOf_get _ _ _ _ (by omega), cel_by (by simp), cel_by (by simp)]
        simp [spl, h1, h2]) (by
        intro u hu
        simp only [Value.cells, cellsOf_size] at hu
        unfold cel spl
        rw [if_neg (by omega)])
      simp only [Value.cells] at this
      rw [this]
      exact q1
    · exact h.elim
  | [], _ :: _, _, _, hc, _, _, _ => by simp [chkSeq] at hc
  | _ :: _, [], _, _, hc, _, _, _ => by simp [chkSeq] at hc

theorem s_bsb {esz : Nat} {ys : List Ar} (hc : chkOp P ρ o.op (.bsb esz ys) = true) (hf : FRel ρ σ a.tmps fr H.length) (hh : HRel ρ σ w H) (hv : vop P ρ fr H (.bsb esz ys) K) (hn : Nx ρ σ H w o a K next) : o.wp P a w next Q := by
  simp only [vop] at hv
  simp only [chkOp] at hc
  split at hc
  · rename_i t len parts ho
    simp only [Bool.and_eq_true, beq_iff_eq, decide_eq_true_eq] at hc
    obtain ⟨⟨⟨⟨rfl, c0⟩, c00⟩, c1⟩, c2⟩ := hc
    have hne : esz ≠ 0 := by simpa using c00
    split at c2
    · rename_i e hu
      simp only [Bool.and_eq_true, beq_iff_eq] at c2
      obtain ⟨c2, c3⟩ := c2
      obtain ⟨z, hz1, hz2, -⟩ := zeroOk_sound (ρ := ρ) (σ := σ) (H := H) (w := w) c3
      obtain ⟨f', q1, _, rfl, q2⟩ := fill_b (a := a) (j := 0) (N := ys.length * esz) c1 hf hv (by simp)
      refine new_at (c := .by [] (ys.length * esz) f') (T := e) hn hh rfl (v := .one (.sl H.length 0 ys.length ys.length)) (by simp [Sv.lt, At.lt]) q2 (x := .slice (some ⟨w.heap.size, 0, none⟩) ys.length ys.length) (by simp [renS, ren, setAt_same]) ?_
      have hz : z.cells = cellsOf [] esz (fun _ => 0) := hz2
      have hzc : (Array.range (ys.length * esz)).map (fun x => (cellsOf [] esz (fun _ => 0))[x % (cellsOf [] esz (fun _ => 0)).size]!) = cellsOf [] (ys.length * esz) (fun _ => 0) := by
        apply Array.ext_getElem?
        intro x
        by_cases hx : x < ys.length * esz
        · rw [cellsOf_get _ _ _ _ hx]
          have hlt : x % esz < esz := Nat.mod_lt _ (by omega)
          have hg : (cellsOf [] esz (fun _ => 0))[x % esz]! = cel [] (fun _ => 0) (x % esz) := by
            rw [getElem!_def, cellsOf_get _ _ _ _ hlt]
          simp only [cellsOf_size]
          simp [hx, hg, cel]
        · rw [Array.getElem?_eq_none (by simp; omega), Array.getElem?_eq_none (by rw [cellsOf_size]; omega)]
      simp only [execOp, ho, Instr.buildSlice, Sem.run_bind, run_underlying' hu, Result.andThen_ok, run_sizeOf' c2]
      rw [if_neg (by omega)]
      by_cases h0 : ys.length * esz = 0
      · simp only [h0, if_true, Sem.run_bind, Sem.run_pure, Result.andThen_ok]
        have : (Array.range 0).map (fun x => (#[] : Array Value)[x % (#[] : Array Value).size]!) = cellsOf [] 0 (fun _ => 0) := by apply Array.ext'; simp [cellsOf]
        rw [h0] at q1
        rw [this, Array.toList_map, q1]
        simp [newRow, cellsB]
      · simp only [h0, if_false, Sem.run_bind, hz1, Sem.run_pure, Result.andThen_ok, hz]
        rw [hzc, Array.toList_map, q1]
        simp [newRow, cellsB]
    · cases c2
  · cases hc

theorem s_slc {y : Ar} {lo' hi' : Option Ar} {esz : Nat} (hc : chkOp P ρ o.op (.slc y lo' hi' esz) = true) (hf : FRel ρ σ a.tmps fr H.length) (hh : HRel ρ σ w H) (hv : vop P ρ fr H (.slc y lo' hi' esz) K) (hn : Nx ρ σ H w o a K next) : o.wp P a w next Q := by
  simp only [vop] at hv
  split at hv
  · rename_i k off len cap he
    split at hv
    · rename_i l h hl hr
      obtain ⟨x, y, rfl, rfl, ⟨b1', b2', b3'⟩, hv⟩ := hv
      have b0 : (0 : Int) ≤ (x : Int) := by omega
      have b1 : (x : Int) ≤ (y : Int) := by omega
      have b2 : (y : Int) ≤ (cap : Nat) := by omega
      have b3 : (x : Int) < (cap : Nat) := by omega
      simp only [chkOp] at hc
      split at hc
      · rename_i t xx lo hi mx ho
        simp only [Bool.and_eq_true] at hc
        obtain ⟨⟨⟨⟨c1, c2⟩, c3⟩, c4⟩, c5⟩ := hc
        have hmx : mx = none := by simpa using c2
        subst hmx
        obtain ⟨e1, l1⟩ := chkAr_sound c1 hf he
        split at c5
        · rename_i e hu
          simp only [beq_iff_eq] at c5
          refine here hn hh hv (v := .one (.sl k (off + x * esz) (y - x) (cap - x))) l1 rfl ?_
          have hh1 : ((match hi with | some v => Instr.sliceBound (a.eval v) cap .sliceAcap | none => pure len : Sem Nat)).run P w = .ok y w := by
            cases hi with
            | none =>
              cases hi' with
              | none =>
                          simp only [evo, Option.some.injEq, Sv.one.injEq, At.i.injEq, true_and] at hr
                          have hr : len = y := by omega
                          subst hr; simp
              | some v => cases c4
            | some u =>
              cases hi' with
              | none => cases c4
              | some v =>
                obtain ⟨e2, -⟩ := chkAr_sound c4 hf hr
                simp [Instr.sliceBound, e2, renS, ren, asIntOf, show (0 : Int) ≤ (y : Int) by omega, b2]
          have hl1 : ((match lo with | some v => Instr.sliceBound (a.eval v) y .sliceB | none => pure 0 : Sem Nat)).run P w = .ok x w := by
            cases lo with
            | none =>
              cases lo' with
              | none =>
                          simp only [evo, Option.some.injEq, Sv.one.injEq, At.i.injEq, true_and] at hl
                          have hl : 0 = x := by omega
                          subst hl; simp
              | some v => cases c3
            | some u =>
              cases lo' with
              | none => cases c3
              | some v =>
                obtain ⟨e2, -⟩ := chkAr_sound c3 hf hl
                simp [Instr.sliceBound, e2, renS, ren, asIntOf, b0, show (x : Int) ≤ max (y : Int) 0 by omega, b1']
          have hb : (Instr.sliceBounds true len cap (lo.map a.eval) (hi.map a.eval) none).run P w = .ok (x, y, cap) w := by
            unfold Instr.sliceBounds
            cases hi with
            | none =>
              simp only [Option.map_none, Sem.run_bind, Sem.run_pure, Result.andThen_ok] at hh1 ⊢
              injection hh1 with hh1
              cases lo with
              | none =>
                simp only [Option.map_none, Sem.run_pure, Result.andThen_ok] at hl1 ⊢
                injection hl1 with hl1
                rw [← hl1, hh1]
                rfl
              | some u =>
                simp only [Option.map_some] at hl1 ⊢
                rw [hh1]
                simp [hl1]
            | some v =>
              simp only [Option.map_some, Sem.run_bind, Sem.run_pure, Result.andThen_ok, if_true] at hh1 ⊢
              rw [hh1]
              simp only [Result.andThen_ok]
              cases lo with
              | none =>
                simp only [Option.map_none, Sem.run_pure, Result.andThen_ok] at hl1 ⊢
                injection hl1 with hl1
                rw [← hl1]
                rfl
              | some u =>
                simp only [Option.map_some] at hl1 ⊢
                simp [hl1]
          have hne : ¬ cap = x := by omega
          simp [execOp, ho, e1, renS, ren, Instr.sliceAt, Instr.slice, Sem.run_bind, run_underlying' hu, hb, run_sizeOf' c5, hne, add_mk]
        · cases c5
      · cases hc
    · exact hv.elim
  · exact hv.elim
end
end Hf
/- The engine, part 8: a call of the abstract state is a call of the model. -/
namespace Hf
open Go

section
variable {P : Program} {ρ : Nat → FuncId} {σ : Nat → Nat} {H : List Blk} {w : World} {o : Oper} {a : Act} {fr : List (Nat × Sv)} {K : Sv → List Blk → Prop}
variable {next : Act → World → Prop} {Q : Exit → Act → World → Prop}

theorem ren_mva (T : Nat → Nat) (x : At) : ren ρ σ (mva T x) = ren ρ (fun k => σ (T k)) x := by
  cases x <;> simp [mva, ren]
  constructor <;> (intro p q _; rfl)
theorem renS_mvs (T : Nat → Nat) (x : Sv) : renS ρ σ (mvs T x) = renS ρ (fun k => σ (T k)) x := by
  cases x with
  | one a => exact ren_mva T a
  | tup l => simp only [mvs, renS, List.map_map]; congr 2; exact List.map_congr_left fun a _ => ren_mva T a
theorem cellsB_mvb (T : Nat → Nat) (x : Bk) : cellsB ρ σ (mvb T x) = cellsB ρ (fun k => σ (T k)) x := by
  cases x with
  | «by» hd n f => rfl
  | vr a => simp only [mvb, cellsB, ren_mva]
  | rw l => simp only [mvb, cellsB, List.map_map]; congr 1; exact List.map_congr_left fun a _ => ren_mva T a

theorem mva_lt {T : Nat → Nat} {n m : Nat} (hT : ∀ k, k < n → T k < m) {x : At} (h : x.lt n = true) : (mva T x).lt m = true := by
  cases x with
  | pt k off => simp [At.lt, mva] at *; exact hT k h
  | sl k off len cap => simp [At.lt, mva] at *; exact hT k h
  | fn f first caps =>
    simp only [At.lt, mva, Bool.and_eq_true, List.all_eq_true, decide_eq_true_eq, List.mem_map] at *
    refine ⟨?_, ?_⟩
    · rintro p ⟨q, hq, rfl⟩; exact hT _ (h.1 q hq)
    · rintro p ⟨q, hq, rfl⟩; exact hT _ (h.2 q hq)
  | _ => rfl
theorem mva_cell1 {T : Nat → Nat} {x : At} (h : x.cell1 = true) : (mva T x).cell1 = true := by
  cases x <;> first | rfl | cases h
theorem mvs_lt {T : Nat → Nat} {n m : Nat} (hT : ∀ k, k < n → T k < m) {x : Sv} (h : x.lt n = true) : (mvs T x).lt m = true := by
  cases x with
  | one a => exact mva_lt hT h
  | tup l =>
    simp only [Sv.lt, mvs, List.all_eq_true, List.mem_map] at *
    rintro p ⟨q, hq, rfl⟩
    exact mva_lt hT (h q hq)
theorem mvb_lt {T : Nat → Nat} {n m : Nat} (hT : ∀ k, k < n → T k < m) {x : Bk} (h : x.lt n = true) : (mvb T x).lt m = true := by
  cases x with
  | «by» hd n f => rfl
  | vr a => simp only [Bk.lt, mvb, Bool.and_eq_true] at *; exact ⟨mva_lt hT h.1, mva_cell1 h.2⟩
  | rw l =>
    simp only [Bk.lt, mvb, List.all_eq_true, List.mem_map, Bool.and_eq_true] at *
    rintro p ⟨q, hq, rfl⟩
    exact ⟨mva_lt hT (h q hq).1, mva_cell1 (h q hq).2⟩
theorem lt_mva {T : Nat → Nat} {n m : Nat} (hT : ∀ k, n ≤ k → m ≤ T k) {x : At} (h : (mva T x).lt m = true) : x.lt n = true := by
  have key : ∀ k, T k < m → k < n := fun k hk => by
    rcases Nat.lt_or_ge k n with h | h
    · exact h
    · have := hT k h; omega
  cases x with
  | pt k off => simp [At.lt, mva] at *; exact key k h
  | sl k off len cap => simp [At.lt, mva] at *; exact key k h
  | fn f first caps =>
    simp only [At.lt, mva, Bool.and_eq_true, List.all_eq_true, decide_eq_true_eq, List.mem_map] at *
    refine ⟨fun q hq => key _ (h.1 _ ⟨q, hq, rfl⟩), fun q hq => key _ (h.2 _ ⟨q, hq, rfl⟩)⟩
  | _ => rfl
theorem cell1_mva {T : Nat → Nat} {x : At} (h : (mva T x).cell1 = true) : x.cell1 = true := by
  cases x <;> first | rfl | cases h
theorem lt_mvb {T : Nat → Nat} {n m : Nat} (hT : ∀ k, n ≤ k → m ≤ T k) {x : Bk} (h : (mvb T x).lt m = true) : x.lt n = true := by
  cases x with
  | «by» hd n f => rfl
  | vr a => simp only [Bk.lt, mvb, Bool.and_eq_true] at *; exact ⟨lt_mva hT h.1, cell1_mva h.2⟩
  | rw l =>
    simp only [Bk.lt, mvb, List.all_eq_true, List.mem_map, Bool.and_eq_true] at *
    intro q hq
    have := h _ ⟨q, hq, rfl⟩
    exact ⟨lt_mva hT this.1, cell1_mva this.2⟩

theorem emb_length {T : Nat → Nat} : ∀ {τ : List Nat} {Hc : List Blk}, emb T H τ Hc → τ.length = Hc.length
  | [], [], _ => rfl
  | _ :: _, _ :: _, h => by simp [emb_length h.2]
  | [], _ :: _, h => h.elim
  | _ :: _, [], h => h.elim
theorem emb_get {T : Nat → Nat} : ∀ {τ : List Nat} {Hc : List Blk} {j : Nat} {B : Blk}, emb T H τ Hc → Hc[j]? = some B → ∃ t r, τ[j]? = some t ∧ H[t]? = some ⟨r, mvb T B.c⟩ ∧ (B.ro = false → r = false)
  | t :: ts, B0 :: Bs, 0, B, h, e => by
    simp at e; subst e
    obtain ⟨⟨r, h1, h2⟩, -⟩ := h
    exact ⟨t, r, rfl, h1, h2⟩
  | t :: ts, B0 :: Bs, j + 1, B, h, e => by
    rw [List.getElem?_cons_succ] at e ⊢
    exact emb_get h.2 e
  | [], [], _, _, _, e => by simp at e
  | [], _ :: _, _, _, h, _ => h.elim
  | _ :: _, [], _, _, h, _ => h.elim

theorem apart_get : ∀ {τ : List Nat} {Hc : List Blk} {i j : Nat} {B : Blk} {ti tj : Nat}, τ.length = Hc.length → apart τ Hc = true → i ≠ j → Hc[i]? = some B → B.ro = false → τ[i]? = some ti → τ[j]? = some tj → ti ≠ tj := by
  intro τ
  induction τ with
  | nil => intro Hc i j B ti tj _ _ _ _ _ h _; simp at h
  | cons t ts ih =>
    intro Hc i j B ti tj hl ha hij hB hro hi hj
    cases Hc with
    | nil => simp at hl
    | cons B0 Bs =>
      simp only [List.length_cons, Nat.add_right_cancel_iff] at hl
      simp only [apart, Bool.and_eq_true, List.all_eq_true] at ha
      obtain ⟨a1, a2⟩ := ha
      cases i with
      | zero =>
        simp at hi hB; subst hi; subst hB
        cases j with
        | zero => exact (hij rfl).elim
        | succ j =>
          rw [List.getElem?_cons_succ] at hj
          have hjl : j < ts.length := (List.getElem?_eq_some_iff.1 hj).1
          have hjB : Bs[j]? = some Bs[j] := by simp [← hl, hjl]
          have hm : (tj, Bs[j]) ∈ ts.zip Bs := by
            apply List.mem_of_getElem? (i := j)
            rw [List.getElem?_zip_eq_some]
            exact ⟨hj, hjB⟩
          have := a1 _ hm
          simp [hro] at this
          exact fun e => this e.symm
      | succ i =>
        rw [List.getElem?_cons_succ] at hi hB
        cases j with
        | zero =>
          simp at hj; subst hj
          have hm : (ti, B) ∈ ts.zip Bs := by
            apply List.mem_of_getElem? (i := i)
            rw [List.getElem?_zip_eq_some]
            exact ⟨hi, hB⟩
          have := a1 _ hm
          simp [hro] at this
          exact this
        | succ j =>
          rw [List.getElem?_cons_succ] at hj
          exact ih hl a2 (by omega) hB hro hi hj

theorem back_length {T : Nat → Nat} : ∀ (τ : List Nat) (Hc Hc' H : List Blk), (back T τ Hc Hc' H).length = H.length
  | t :: ts, B :: Bs, B' :: Bs', H => by
    rw [back, back_length]
    split <;> simp
  | [], _, _, _ => by simp [back]
  | _ :: _, [], _, _ => by simp [back]
  | _ :: _, _ :: _, [], _ => by simp [back]

theorem back_get {T : Nat → Nat} {k : Nat} : ∀ (τ : List Nat) (Hc Hc' H : List Blk), τ.length = Hc.length → Hc.length ≤ Hc'.length → k < H.length →
    ((back T τ Hc Hc' H)[k]? = H[k]? ∧ ∀ (j : Nat) (B : Blk), τ[j]? = some k → Hc[j]? = some B → B.ro = true) ∨
    ∃ (j : Nat) (B B' : Blk), τ[j]? = some k ∧ Hc[j]? = some B ∧ Hc'[j]? = some B' ∧ B.ro = false ∧ (back T τ Hc Hc' H)[k]? = some ⟨false, mvb T B'.c⟩
  | t :: ts, B :: Bs, B' :: Bs', H, hl, hl', hk => by
    simp only [List.length_cons, Nat.add_right_cancel_iff, Nat.add_le_add_iff_right] at hl hl'
    rw [back]
    rcases back_get (k := k) ts Bs Bs' (if B.ro then H else H.set t ⟨false, mvb T B'.c⟩) hl hl' (by split <;> simpa using hk) with ⟨h1, h2⟩ | ⟨j, B1, B2, e1, e2, e3, e4, e5⟩
    · by_cases hro : B.ro = true
      · rw [if_pos hro] at h1
        refine .inl ⟨by rw [if_pos hro]; exact h1, ?_⟩
        intro j B1 hj hB
        cases j with
        | zero => simp at hB; subst hB; exact hro
        | succ j => exact h2 j B1 (by simpa using hj) (by simpa using hB)
      · rw [if_neg hro] at h1 ⊢
        by_cases ht : t = k
        · subst ht
          refine .inr ⟨0, B, B', rfl, rfl, rfl, by simpa using hro, ?_⟩
          rw [h1, List.getElem?_set_self hk]
        · refine .inl ⟨?_, ?_⟩
          · rw [h1, List.getElem?_set_ne ht]
          · intro j B1 hj hB
            cases j with
            | zero => simp at hj; exact (ht hj).elim
            | succ j => exact h2 j B1 (by simpa using hj) (by simpa using hB)
    · exact .inr ⟨j + 1, B1, B2, by simpa using e1, by simpa using e2, by simpa using e3, e4, e5⟩
  | [], [], _, H, _, _, _ => .inl ⟨by simp [back], fun j B h _ => by simp at h⟩
  | [], _ :: _, _, _, hl, _, _ => by simp at hl
  | _ :: _, [], _, _, hl, _, _ => by simp at hl
  | _ :: _, _ :: _, [], _, _, hl, _ => by simp at hl

theorem tau_lt {τ : List Nat} {m k : Nat} {t : Nat} (h : τ[k]? = some t) : tau τ m k = t := by simp [tau, h]
theorem tau_ge {τ : List Nat} {m k : Nat} (h : τ.length ≤ k) : tau τ m k = m + (k - τ.length) := by simp [tau, List.getElem?_eq_none h]

theorem call_sound {f : Nat} {l : List At} (hh : HRel ρ σ w H) (hv : vcall P ρ H f l K) :
    Calls P (ρ f) (l.map (ren ρ σ)).toArray w fun e w' => ∃ v H' σ', e = .returned (renS ρ σ' v) ∧ K v H' ∧ Sp ρ σ H w σ' H' w' ∧ v.lt H'.length = true := by
  obtain ⟨m, τ, as, Hc, v, Hc', H', rfl, hok, rfl, hemb, hap, rfl, hK⟩ := hv
  generalize hT : tau τ H.length = T at *
  have hlen := emb_length hemb
  have hTlt : ∀ k, k < τ.length → ∃ t, τ[k]? = some t ∧ T k = t ∧ t < H.length := by
    intro k hk
    have hB : Hc[k]? = some Hc[k] := by simp [← hlen, hk]
    obtain ⟨t, r, e1, e2, -⟩ := emb_get hemb hB
    exact ⟨t, e1, by rw [← hT]; exact tau_lt e1, (List.getElem?_eq_some_iff.1 e2).1⟩
  have hTge : ∀ k, τ.length ≤ k → T k = H.length + (k - τ.length) := fun k hk => by rw [← hT]; exact tau_ge hk
  have hhc : HRel ρ (fun k => σ (T k)) w Hc := by
    refine ⟨?_, ?_, ?_⟩
    · intro k B hB
      obtain ⟨t, r, e1, e2, -⟩ := emb_get hemb hB
      obtain ⟨T', e3⟩ := hh.at_ _ _ e2
      have : T k = t := by rw [← hT]; exact tau_lt e1
      exact ⟨T', by rw [this, e3, cellsB_mvb]⟩
    · intro j k B hjk hk hB hro
      obtain ⟨tj, r, e1, e2, e3⟩ := emb_get hemb hB
      obtain ⟨tk, f1, f2, f3⟩ := hTlt k (by omega)
      have : T j = tj := by rw [← hT]; exact tau_lt e1
      have hne := apart_get hlen hap hjk hB hro e1 f1
      show σ (T j) ≠ σ (T k)
      rw [this, f2]
      exact hh.sep tj tk _ hne f3 e2 (e3 hro)
    · intro k B hB
      obtain ⟨t, r, e1, e2, -⟩ := emb_get hemb hB
      have := hh.clo _ _ e2
      exact lt_mvb (fun x hx => by rw [hTge x (by omega)]; omega) this
  have hargs : ((as.map (mva T)).map (ren ρ σ)).toArray = (as.map (ren ρ (fun k => σ (T k)))).toArray := by
    rw [List.map_map]
    congr 1
    exact List.map_congr_left fun x _ => ren_mva T x
  rw [hargs]
  refine (hok _ w hhc).mono ?_
  rintro e w' ⟨σc, rfl, sp, hvl⟩
  have hlc : Hc.length ≤ Hc'.length := sp.len
  let σ' : Nat → Nat := fun k => if k < H.length then σ k else σc (k - H.length + τ.length)
  have hσT : ∀ k, k < Hc'.length → σ' (T k) = σc k := by
    intro k hk
    by_cases hkl : k < τ.length
    · obtain ⟨t, f1, f2, f3⟩ := hTlt k hkl
      have := sp.same k (by omega)
      simp only [f2] at this
      rw [f2]
      simp only [σ', f3, if_true]
      exact this.symm
    · rw [hTge k (by omega)]
      simp only [σ']
      rw [if_neg (by omega)]
      congr 1; omega
  have hTm : ∀ k, k < Hc'.length → T k < H.length + (Hc'.length - Hc.length) := by
    intro k hk
    by_cases hkl : k < τ.length
    · obtain ⟨t, f1, f2, f3⟩ := hTlt k hkl
      rw [f2]; omega
    · rw [hTge k (by omega)]; omega
  have hcb : ∀ {c : Bk}, c.lt Hc'.length = true → cellsB ρ σ' (mvb T c) = cellsB ρ σc c := by
    intro c hc
    rw [cellsB_mvb]
    exact cellsB_congr (m := Hc'.length) (fun k hk => hσT k hk) hc
  have hbl := back_length (T := T) τ Hc Hc' H
  have hH'len : (back T τ Hc Hc' H ++ (Hc'.drop Hc.length).map (fun B => (⟨B.ro, mvb T B.c⟩ : Blk))).length = H.length + (Hc'.length - Hc.length) := by
    simp [hbl]
  have hσold : ∀ k, k < H.length → σ' k = σ k := fun k hk => by simp only [σ', hk, if_true]
  have hold : ∀ (k : Nat) (B : Blk), k < H.length → (back T τ Hc Hc' H ++ (Hc'.drop Hc.length).map (fun B => (⟨B.ro, mvb T B.c⟩ : Blk)))[k]? = some B →
      (H[k]? = some B ∧ ∀ (j : Nat) (B : Blk), τ[j]? = some k → Hc[j]? = some B → B.ro = true) ∨ ∃ (j : Nat) (B1 B' : Blk), τ[j]? = some k ∧ Hc[j]? = some B1 ∧ Hc'[j]? = some B' ∧ B1.ro = false ∧ B = ⟨false, mvb T B'.c⟩ := by
    intro k B hk hB
    rw [List.getElem?_append_left (by rw [hbl]; exact hk)] at hB
    rcases back_get (T := T) τ Hc Hc' H hlen hlc hk with ⟨h1, h2⟩ | ⟨j, B1, B2, e1, e2, e3, e4, e5⟩
    · exact .inl ⟨by rw [← h1]; exact hB, h2⟩
    · rw [e5] at hB
      exact .inr ⟨j, B1, B2, e1, e2, e3, e4, by cases hB; rfl⟩
  have hnew : ∀ (k : Nat) (B : Blk), H.length ≤ k → (back T τ Hc Hc' H ++ (Hc'.drop Hc.length).map (fun B => (⟨B.ro, mvb T B.c⟩ : Blk)))[k]? = some B →
      ∃ B', Hc'[k - H.length + τ.length]? = some B' ∧ B = ⟨B'.ro, mvb T B'.c⟩ := by
    intro k B hk hB
    rw [List.getElem?_append_right (by rw [hbl]; exact hk), hbl] at hB
    simp only [List.getElem?_map, List.getElem?_drop, Option.map_eq_some_iff] at hB
    obtain ⟨B', h1, h2⟩ := hB
    exact ⟨B', by rw [← h1]; congr 1; omega, h2.symm⟩
  have hwr : ∀ {k : Nat} {B : Blk}, k < H.length → (back T τ Hc Hc' H ++ (Hc'.drop Hc.length).map (fun B => (⟨B.ro, mvb T B.c⟩ : Blk)))[k]? = some B → ∃ B0, H[k]? = some B0 ∧ B.ro = B0.ro := by
    intro k B hk hB
    rcases hold k B hk hB with ⟨h1, h2⟩ | ⟨j, B1, B', e1, e2, e3, e4, rfl⟩
    · exact ⟨B, h1, rfl⟩
    · obtain ⟨t, r, g1, g2, g3⟩ := emb_get hemb e2
      rw [e1] at g1; cases g1
      exact ⟨_, g2, (g3 e4).symm⟩
  refine ⟨_, _, σ', ?_, hK, ?_, ?_⟩
  · rw [renS_mvs, renS_congr (m := Hc'.length) (fun k hk => hσT k hk) hvl]
  · refine ⟨⟨?_, ?_, ?_⟩, ⟨sp.k.os, sp.k.tape, sp.k.output, sp.k.size, ?_⟩, by rw [hH'len]; omega, hσold, ?_, ?_⟩
    · intro k B hB
      by_cases hk : k < H.length
      · rcases hold k B hk hB with ⟨h1, h2⟩ | ⟨j, B1, B', e1, e2, e3, e4, rfl⟩
        · obtain ⟨T', hT'⟩ := hh.at_ k B h1
          refine ⟨T', ?_⟩
          rw [hσold k hk, cellsB_congr (fun x hx => hσold x hx) (hh.clo k B h1)]
          rw [sp.k.old (σ k) (hh.lt hk) ?_]
          · exact hT'
          · intro j Bc hj hro
            obtain ⟨t, r, g1, g2, g3⟩ := emb_get hemb hj
            have htk : t ≠ k := fun e => by
              subst e
              have := h2 j Bc g1 hj
              rw [hro] at this; cases this
            have : T j = t := by rw [← hT]; exact tau_lt g1
            show σ k ≠ σ (T j)
            rw [this]
            exact (hh.sep t k _ htk hk g2 (g3 hro)).symm
        · obtain ⟨T', hT'⟩ := sp.h.at_ j B' e3
          refine ⟨T', ?_⟩
          have hj : j < Hc'.length := (List.getElem?_eq_some_iff.1 e3).1
          have h1 := hσT j hj
          have : T j = k := by rw [← hT]; exact tau_lt e1
          rw [this] at h1
          rw [h1, hcb (sp.h.clo j B' e3)]
          exact hT'
      · obtain ⟨B', h1, rfl⟩ := hnew k B (by omega) hB
        obtain ⟨T', hT'⟩ := sp.h.at_ _ B' h1
        refine ⟨T', ?_⟩
        rw [hcb (sp.h.clo _ B' h1)]
        simp only [σ']
        rw [if_neg hk]
        exact hT'
    · intro j k B hjk hk hB hro
      rw [hH'len] at hk
      by_cases hk1 : k < H.length
      · by_cases hj1 : j < H.length
        · obtain ⟨B0, g1, g2⟩ := hwr hj1 hB
          rw [hσold k hk1, hσold j hj1]
          exact hh.sep j k B0 hjk hk1 g1 (by rw [← g2]; exact hro)
        · obtain ⟨B', h1, rfl⟩ := hnew j B (by omega) hB
          have hjl := (List.getElem?_eq_some_iff.1 h1).1
          have := sp.fresh (j - H.length + τ.length) (by omega) hjl
          have h2 := hh.lt hk1
          rw [hσold k hk1]
          simp only [σ']
          rw [if_neg hj1]
          omega
      · have hkf : w.heap.size ≤ σ' k := by
          simp only [σ']
          rw [if_neg hk1]
          exact sp.fresh _ (by omega) (by omega)
        by_cases hj1 : j < H.length
        · rw [hσold j hj1]
          have := hh.lt hj1
          omega
        · obtain ⟨B', h1, rfl⟩ := hnew j B (by omega) hB
          simp only [σ']
          rw [if_neg hj1, if_neg hk1]
          exact sp.h.sep _ _ B' (by omega) (by omega) h1 hro
    · intro k B hB
      rw [hH'len]
      by_cases hk : k < H.length
      · rcases hold k B hk hB with ⟨h1, h2⟩ | ⟨j, B1, B', e1, e2, e3, e4, rfl⟩
        · exact Bk.lt_mono (by omega) (hh.clo k B h1)
        · exact mvb_lt hTm (sp.h.clo j B' e3)
      · obtain ⟨B', h1, rfl⟩ := hnew k B (by omega) hB
        exact mvb_lt hTm (sp.h.clo _ B' h1)
    · intro b hb hn
      refine sp.k.old b hb ?_
      intro j Bc hj hro
      obtain ⟨t, r, g1, g2, g3⟩ := emb_get hemb hj
      have : T j = t := by rw [← hT]; exact tau_lt g1
      show b ≠ σ (T j)
      rw [this]
      exact hn t _ g2 (g3 hro)
    · intro k B B' h1 h2
      have hk : k < H.length := (List.getElem?_eq_some_iff.1 h1).1
      obtain ⟨B0, g1, g2⟩ := hwr hk h2
      rw [h1] at g1; cases g1
      exact g2
    · intro k h1 h2
      rw [hH'len] at h2
      simp only [σ']
      rw [if_neg (by omega)]
      exact sp.fresh _ (by omega) (by omega)
  · rw [hH'len]
    exact mvs_lt hTm hvl

theorem fnOk_enter {f : FuncId} (h : fnOk P f = true) (args : Array Value) : (callFunc f args).run P w = .ok (.enter f args) w := by
  unfold fnOk at h
  split at h
  · rename_i fn hf
    simp only [Bool.and_eq_true, bne_iff_ne, ne_eq] at h
    obtain ⟨h1, h2⟩ := h
    obtain ⟨c, hc⟩ := Option.isSome_iff_exists.1 h2
    simp [callFunc, hf, h1, hc]
  · cases h

theorem enter_wp {f : Nat} {l : List At} (hn : Nx ρ σ H w o a K next) (hh : HRel ρ σ w H) (hv : vcall P ρ H f l K)
    (hrun : (execOp a.eval o).run P w = .ok (.enter (ρ f) (l.map (ren ρ σ)).toArray) w) : o.wp P a w next Q := by
  unfold Oper.wp
  rw [hrun]
  refine (call_sound hh hv).mono ?_
  rintro e w' ⟨v, H', σ', rfl, hK, sp, hl⟩
  exact hn v H' σ' w' hK sp hl

theorem s_call {f' : Nat} {as' : List Ar} (hc : chkOp P ρ o.op (.call f' as') = true) (hf : FRel ρ σ a.tmps fr H.length) (hh : HRel ρ σ w H) (hv : vop P ρ fr H (.call f' as') K) (hn : Nx ρ σ H w o a K next) : o.wp P a w next Q := by
  simp only [vop] at hv
  split at hv
  · rename_i l hl
    simp only [chkOp] at hc
    split at hc
    · rename_i c ho
      simp only [Bool.and_eq_true] at hc
      obtain ⟨h1, h2⟩ := hc
      split at h1
      · rename_i f hcal
        simp only [Bool.and_eq_true, beq_iff_eq] at h1
        obtain ⟨rfl, h3⟩ := h1
        obtain ⟨e1, -⟩ := atoms_sound (a := a) h2 hf hl
        refine enter_wp hn hh hv ?_
        have r1 : Array.map a.eval c.args = (l.map (ren ρ σ)).toArray := by apply Array.ext'; rw [Array.toList_map, e1]
        simp [execOp, ho, resolve, hcal, Act.eval, Deferred.ofValue, invoke]
        have r1' : Array.map (fun x => a.eval x) c.args = (l.map (ren ρ σ)).toArray := r1
        first
          | (rw [r1, fnOk_enter h3])
          | (rw [r1', fnOk_enter h3])
      · cases h1
    · cases hc
  · exact hv.elim

/-- the functions that a function value may be of -/
def fnsOk (P : Program) (ρ : Nat → FuncId) (n : Nat) : Prop := ∀ f, f < n → fnOk P (ρ f) = true

theorem s_calv {y : Ar} {as' : List Ar} (hfn : ∀ f, fnOk P (ρ f) = true) (hc : chkOp P ρ o.op (.calv y as') = true) (hf : FRel ρ σ a.tmps fr H.length) (hh : HRel ρ σ w H) (hv : vop P ρ fr H (.calv y as') K) (hn : Nx ρ σ H w o a K next) : o.wp P a w next Q := by
  simp only [vop] at hv
  split at hv
  · rename_i f first caps l he hl
    simp only [chkOp] at hc
    split at hc
    · rename_i c ho
      simp only [Bool.and_eq_true] at hc
      obtain ⟨h1, h2⟩ := hc
      split at h1
      · rename_i t hcal
        obtain ⟨e1, -⟩ := atoms_sound (a := a) h2 hf hl
        obtain ⟨e0, -⟩ := chkAr_sound h1 hf he
        refine enter_wp hn hh hv ?_
        have r1 : Array.map a.eval c.args = (l.map (ren ρ σ)).toArray := by apply Array.ext'; rw [Array.toList_map, e1]
        have r2 : ((List.map (fun p : Nat × Nat => At.pt p.1 p.2) first ++ l ++ List.map (fun p : Nat × Nat => At.pt p.1 p.2) caps).map (ren ρ σ)).toArray = (first.map (pv σ)).toArray ++ (l.map (ren ρ σ)).toArray ++ (caps.map (pv σ)).toArray := by
          have z : ∀ q : List (Nat × Nat), List.map (ren ρ σ) (List.map (fun p : Nat × Nat => At.pt p.1 p.2) q) = q.map (pv σ) := by
            intro q; rw [List.map_map]; exact List.map_congr_left fun p _ => rfl
          simp [z]
        rw [r2]
        have r1' : Array.map (fun x => a.eval x) c.args = (l.map (ren ρ σ)).toArray := r1
        simp only [execOp, ho, resolve, hcal, e0, renS, ren, Deferred.ofValue, Sem.run_bind, Sem.run_pure, Result.andThen_ok, invoke, r1]
        rw [fnOk_enter (hfn f)]
      · cases h1
    · cases hc
  · exact hv.elim
end
end Hf
/- The engine, part 9: regions, control, functions. -/
namespace Hf
open Go

structure PI where
  d : Option Nat
  g : Option (Nat × Bool)
  op : PO
  deriving Inhabited

def push (d : Option Nat) (v : Sv) (fr : List (Nat × Sv)) : List (Nat × Sv) := match d with
  | some t => (t, v) :: fr
  | none => fr

/-- a guarded operation; what goes on behind it stands once -/
def gdo (c : Bool) (V : (Sv → List Blk → Prop) → Prop) (d : Option Nat) (fr : List (Nat × Sv)) (hp : List Blk) (K : List (Nat × Sv) → List Blk → Prop) : Prop := match c with
  | true => V fun v H' => K (push d v fr) H'
  | false => K (push d (.tup []) fr) hp

section
variable (P : Program) (ρ : Nat → FuncId)
/-- one operation of a region -/
def vstep (p : PI) (st : St) (K : St → Prop) : Prop := match p, st with
  | ⟨d, none, op⟩, ⟨fr, hp⟩ => vop P ρ fr hp op fun v H' => K ⟨push d v fr, H'⟩
  | ⟨d, some (s, b), op⟩, ⟨fr, hp⟩ => match lk fr s with
      | some (.one (.b g)) => brB g fun g' => gdo (g' == b) (vop P ρ ((s, .one (.b g')) :: fr) hp op) d ((s, .one (.b g')) :: fr) hp fun fr' hp' => K ⟨fr', hp'⟩
      | some (.tup _) => K ⟨push d (.tup []) fr, hp⟩
      | _ => False
/-- by the recursor itself: so the kernel and the elaborator come to the same terms -/
noncomputable def vreg (l : List PI) : St → (St → Prop) → Prop :=
  List.rec (motive := fun _ => St → (St → Prop) → Prop) (fun st Q => Q st) (fun p _ ih st Q => vstep P ρ p st fun st' => ih st' Q) l
noncomputable def vregp (l : List (Nat × PI)) : St → (St → Prop) → Prop :=
  List.rec (motive := fun _ => St → (St → Prop) → Prop) (fun st Q => Q st) (fun p _ ih st Q => vstep P ρ p.2 st fun st' => ih st' Q) l
variable {P ρ}
theorem vreg_n {st : St} {Q : St → Prop} : vreg P ρ [] st Q = Q st := rfl
theorem vregp_eq : ∀ {l : List (Nat × PI)} {st : St} {Q : St → Prop}, vregp P ρ l st Q = vreg P ρ (l.map (·.2)) st Q
  | [], _, _ => rfl
  | p :: r, st, Q => by
    show vstep P ρ p.2 st (fun st' => vregp P ρ r st' Q) = vstep P ρ p.2 st (fun st' => vreg P ρ (r.map (·.2)) st' Q)
    congr 1
    funext st'
    exact vregp_eq
theorem vreg_c {p : PI} {r : List PI} {st : St} {Q : St → Prop} : vreg P ρ (p :: r) st Q = match p.g with
    | none => vop P ρ st.fr st.hp p.op fun v H' => vreg P ρ r ⟨push p.d v st.fr, H'⟩ Q
    | some (s, b) => match lk st.fr s with
      | some (.one (.b g)) => brB g fun g' => gdo (g' == b) (vop P ρ ((s, .one (.b g')) :: st.fr) st.hp p.op) p.d ((s, .one (.b g')) :: st.fr) st.hp fun fr' hp' => vreg P ρ r ⟨fr', hp'⟩ Q
      | some (.tup _) => vreg P ρ r ⟨push p.d (.tup []) st.fr, st.hp⟩ Q
      | _ => False := by
  obtain ⟨d, g, op⟩ := p
  cases st
  rcases g with _ | ⟨s, b⟩ <;> rfl
end

def chkGuard (ops : Array Oper) (g : Option (Nat × Bool)) (g' : Option (Nat × Bool)) : Bool := match g, g' with
  | none, none => true
  | some (j, b), some (s, b') => b == b' && (ops[j]?).bind (·.dst) == some s
  | _, _ => false

def chkDst (N : Nat) (d d' : Option Nat) : Bool := match d, d' with
  | none, none => true
  | some t, some t' => t == t' && decide (t < N)
  | _, _ => false

/-- operations that hand over no value write no slot -/
def isStore : PO → Bool
  | .sta _ _ _ => true
  | .st8 _ _ => true
  | .st1 _ _ => true
  | _ => false

def chkI (P : Program) (ρ : Nat → FuncId) (N : Nat) (ops : Array Oper) (o : Oper) (p : PI) : Bool :=
  chkDst N o.dst p.d && chkGuard ops o.guard p.g && chkOp P ρ o.op p.op

def chkReg (P : Program) (ρ : Nat → FuncId) (N : Nat) (ops : Array Oper) : List Oper → List PI → Bool
  | o :: l, p :: ps => chkI P ρ N ops o p && chkReg P ρ N ops l ps
  | [], [] => true
  | _, _ => false

section
variable {P : Program} {ρ : Nat → FuncId} {σ₀ : Nat → Nat} {H₀ : List Blk} {w₀ : World} {N : Nat} {σ : Nat → Nat} {w : World} {a : Act} {st : St}

theorem op_sound {o : Oper} {p : PO} {fr : List (Nat × Sv)} {H : List Blk} {K : Sv → List Blk → Prop} {next : Act → World → Prop} {Q : Exit → Act → World → Prop}
    (hfn : ∀ f, fnOk P (ρ f) = true) (hc : chkOp P ρ o.op p = true) (hf : FRel ρ σ a.tmps fr H.length) (hh : HRel ρ σ w H) (hv : vop P ρ fr H p K) (hn : Nx ρ σ H w o a K next) : o.wp P a w next Q := by
  cases p with
  | mov x => exact s_mov hc hf hh hv hn
  | pick c x y => exact s_pick hc hf hh hv hn
  | alo z => exact s_alo hc hf hh hv hn
  | box x => exact s_box hc hf hh hv hn
  | bld h n ps => exact s_bld hc hf hh hv hn
  | lda x h n => exact s_lda hc hf hh hv hn
  | ld8 x => exact s_ld8 hc hf hh hv hn
  | ld1 x => exact s_ld1 hc hf hh hv hn
  | sta x v n => exact s_sta hc hf hh hv hn
  | st8 x v => exact s_st8 hc hf hh hv hn
  | st1 x v => exact s_st1 hc hf hh hv hn
  | nck x => exact s_nck hc hf hh hv hn
  | bin op x y => exact s_bin hc hf hh hv hn
  | nt x => exact s_nt hc hf hh hv hn
  | eqa neg n x y => exact s_eqa hc hf hh hv hn
  | eqn neg x => exact s_eqn hc hf hh hv hn
  | cvt k x => exact s_cvt hc hf hh hv hn
  | mkf f first caps => exact s_mkf hc hf hh hv hn
  | add x c => exact s_add hc hf hh hv hn
  | idx x i len esz => exact s_idx hc hf hh hv hn
  | ids x i esz => exact s_ids hc hf hh hv hn
  | ixb x i len => exact s_ixb hc hf hh hv hn
  | ixa x i len esz => exact s_ixa hc hf hh hv hn
  | ext x j => exact s_ext hc hf hh hv hn
  | call f as => exact s_call hc hf hh hv hn
  | calv x as => exact s_calv hfn hc hf hh hv hn
  | len x => exact s_len hc hf hh hv hn
  | slc x lo hi esz => exact s_slc hc hf hh hv hn
  | bsa xs => exact s_bsa hc hf hh hv hn
  | bsb esz xs => exact s_bsb hc hf hh hv hn

theorem lk_push {d : Option Nat} {v : Sv} {fr : List (Nat × Sv)} {s : Nat} : lk (push d v fr) s = if d = some s then some v else lk fr s := by
  cases d with
  | none => simp [push]
  | some t =>
    by_cases h : t = s
    · subst h; simp [push, lk]
    · simp [push, lk, h]

theorem FRel.put {m m' : Nat} {σ' : Nat → Nat} {d : Option Nat} {v : Sv} {fr : List (Nat × Sv)} (hf : FRel ρ σ a.tmps fr m) (hm : m ≤ m') (hs : ∀ k, k < m → σ' k = σ k) (hv : v.lt m' = true) (hd : ∀ t, d = some t → t < a.tmps.size) :
    FRel ρ σ' (a.put d (renS ρ σ' v)).tmps (push d v fr) m' := by
  refine ⟨?_, ?_⟩
  · intro s u hu
    rw [lk_push] at hu
    split at hu
    · rename_i hds; subst hds
      cases hu
      have := hd s rfl
      simp [Act.put, this]
    · rename_i hds
      have h1 := hf.val s u hu
      rw [renS_congr hs (hf.clo s u hu), ← h1]
      cases d with
      | none => rfl
      | some t =>
        have : t ≠ s := fun e => hds (by rw [e])
        simp [Act.put, Array.getElem?_setIfInBounds_ne this]
  · intro s u hu
    rw [lk_push] at hu
    split at hu
    · cases hu; exact hv
    · exact Sv.lt_mono hm (hf.clo s u hu)

theorem Act.put_size (a : Act) (d : Option Nat) (v : Value) : (a.put d v).tmps.size = a.tmps.size := by
  cases d <;> simp [Act.put]
theorem Act.put_defers' (a : Act) (d : Option Nat) (v : Value) : (a.put d v).defers = a.defers := by
  cases d <;> simp [Act.put]

theorem Inv.step {fr : List (Nat × Sv)} {H' : List Blk} {σ' : Nat → Nat} {w' : World} {d : Option Nat} {v : Sv} (hi : Inv ρ σ₀ H₀ w₀ N σ a w st) (hf : FRel ρ σ a.tmps fr st.hp.length) (sp : Sp ρ σ st.hp w σ' H' w') (hv : v.lt H'.length = true) (hd : ∀ t, d = some t → t < N) :
    Inv ρ σ₀ H₀ w₀ N σ' (a.put d (renS ρ σ' v)) w' ⟨push d v fr, H'⟩ :=
  ⟨hf.put sp.len sp.same hv (fun t ht => by rw [hi.sz]; exact hd t ht), hi.s.trans sp, by rw [Act.put_size]; exact hi.sz, by rw [Act.put_defers']; exact hi.df⟩

theorem chkDst_spec {d d' : Option Nat} (h : chkDst N d d' = true) : d = d' ∧ ∀ t, d = some t → t < N := by
  unfold chkDst at h
  split at h
  · exact ⟨rfl, fun _ h => by cases h⟩
  · simp only [Bool.and_eq_true, beq_iff_eq, decide_eq_true_eq] at h
    obtain ⟨rfl, h⟩ := h
    exact ⟨rfl, fun t ht => by cases ht; exact h⟩
  · cases h

theorem reg_sound {ops : Array Oper} {Q : Exit → Act → World → Prop} (hfn : ∀ f, fnOk P (ρ f) = true) : ∀ {l : List Oper} {ps : List PI} {σ : Nat → Nat} {w : World} {a : Act} {st : St} {Qp : St → Prop}, chkReg P ρ N ops l ps = true → Inv ρ σ₀ H₀ w₀ N σ a w st → vreg P ρ ps st Qp →
    (∀ st' σ' a' w', Qp st' → Inv ρ σ₀ H₀ w₀ N σ' a' w' st' → Q .normal a' w') → wpList P ops Q l a w
  | [], [], σ, w, a, st, Qp, _, hi, hv, hq => hq st σ a w (by rw [vreg_n] at hv; exact hv) hi
  | o :: l, p :: ps, σ, w, a, st, Qp, hc, hi, hv, hq => by
    simp only [chkReg, chkI, Bool.and_eq_true] at hc
    obtain ⟨⟨⟨h1, h2⟩, h3⟩, h4⟩ := hc
    obtain ⟨hd, hdN⟩ := chkDst_spec h1
    simp only [vreg_c] at hv
    unfold wpList
    unfold chkGuard at h2
    split at h2
    · rename_i g1 g2
      rw [if_pos (by simp [Region.wanted, g1])]
      rw [g2] at hv
      refine .inl (op_sound hfn h3 hi.f hi.s.h hv ?_)
      intro v H' σ' w' hK sp hl
      rw [hd]
      exact reg_sound hfn h4 (hi.step hi.f sp hl (fun t ht => hdN t (by rw [hd]; exact ht))) hK hq
    · rename_i j b s b' g1 g2
      simp only [Bool.and_eq_true, beq_iff_eq] at h2
      obtain ⟨rfl, h2⟩ := h2
      rw [g2] at hv
      simp only at hv
      split at hv
      · rename_i g hg
        replace hv := brB_elim hv
        unfold gdo at hv
        have ht := hi.f.val s _ hg
        have hy : yielded ops a.tmps j = some g := by
          unfold yielded
          rw [h2]
          simp [ht, renS, ren]
        have hfr : FRel ρ σ a.tmps ((s, .one (.b g)) :: st.fr) st.hp.length := by
          refine ⟨?_, ?_⟩
          · intro s' u hu
            simp only [lk] at hu
            split at hu
            · rename_i e; subst e; cases hu; exact ht
            · exact hi.f.val s' u hu
          · intro s' u hu
            simp only [lk] at hu
            split at hu
            · cases hu; rfl
            · exact hi.f.clo s' u hu
        split at hv
        · rename_i hgb
          simp only [beq_iff_eq] at hgb; subst hgb
          rw [if_pos (by simp [Region.wanted, g1, hy])]
          refine .inl (op_sound hfn h3 hfr hi.s.h hv ?_)
          intro v H' σ' w' hK sp hl
          rw [hd]
          exact reg_sound hfn h4 (hi.step hfr sp hl (fun t ht => hdN t (by rw [hd]; exact ht))) hK hq
        · rename_i hgb
          have hgb' : g ≠ b := by simpa using hgb
          rw [if_neg (by simp [Region.wanted, g1, hy, hgb'])]
          rw [hd]
          exact reg_sound hfn h4 (hi.step (v := .tup []) hfr (Sp.refl hi.s.h) rfl (fun t ht => hdN t (by rw [hd]; exact ht))) hv hq
      · rename_i l hg
        have ht := hi.f.val s _ hg
        have hy : yielded ops a.tmps j = none := by
          unfold yielded
          rw [h2]
          simp [ht, renS]
        rw [if_neg (by simp [Region.wanted, g1, hy])]
        rw [hd]
        exact reg_sound hfn h4 (hi.step (v := .tup []) hi.f (Sp.refl hi.s.h) rfl (fun t ht => hdN t (by rw [hd]; exact ht))) hv hq
      · exact hv.elim
    · cases h2
  | [], _ :: _, _, _, _, _, _, hc, _, _, _ => by simp [chkReg] at hc
  | _ :: _, [], _, _, _, _, _, hc, _, _, _ => by simp [chkReg] at hc
end

end Hf
/- The engine, part 10: what an operation of the abstract state hangs on. -/
namespace Hf
open Go

def Ar.sl : Ar → List Nat
  | .t s => [s]
  | .c _ => []
def slL : List Ar → List Nat
  | [] => []
  | x :: r => x.sl ++ slL r
def slP : List (Nat × Nat × Ar) → List Nat
  | [] => []
  | x :: r => x.2.2.sl ++ slP r
def slO : Option Ar → List Nat
  | none => []
  | some x => x.sl
def PO.sl : PO → List Nat
  | .mov x => x.sl
  | .pick c x y => c.sl ++ x.sl ++ y.sl
  | .alo _ => []
  | .box x => x.sl
  | .bld _ _ ps => slP ps
  | .lda x _ _ => x.sl
  | .ld8 x => x.sl
  | .ld1 x => x.sl
  | .sta x v _ => x.sl ++ v.sl
  | .st8 x v => x.sl ++ v.sl
  | .st1 x v => x.sl ++ v.sl
  | .nck x => x.sl
  | .bin _ x y => x.sl ++ y.sl
  | .nt x => x.sl
  | .eqa _ _ x y => x.sl ++ y.sl
  | .eqn _ x => x.sl
  | .cvt _ x => x.sl
  | .mkf _ a b => slL a ++ slL b
  | .add x _ => x.sl
  | .idx x i _ _ => x.sl ++ i.sl
  | .ids x i _ => x.sl ++ i.sl
  | .ixb x i _ => x.sl ++ i.sl
  | .ixa x i _ _ => x.sl ++ i.sl
  | .ext x _ => x.sl
  | .call _ as => slL as
  | .calv x as => x.sl ++ slL as
  | .len x => x.sl
  | .slc x lo hi _ => x.sl ++ slO lo ++ slO hi
  | .bsa xs => slL xs
  | .bsb _ xs => slL xs

section
variable {P : Program} {ρ : Nat → FuncId} {H : List Blk} {fr fr' : List (Nat × Sv)}

theorem ev_congr {x : Ar} (h : ∀ s ∈ x.sl, lk fr s = lk fr' s) : ev fr x = ev fr' x := by
  cases x with
  | t s => exact h s (by simp [Ar.sl])
  | c a => rfl
theorem evs_congr {xs : List Ar} (h : ∀ s ∈ slL xs, lk fr s = lk fr' s) : xs.map (ev fr) = xs.map (ev fr') := by
  induction xs with
  | nil => rfl
  | cons x r ih =>
    simp only [slL, List.mem_append] at h
    rw [List.map_cons, List.map_cons, ih fun s hs => h s (.inr hs), ev_congr fun s hs => h s (.inl hs)]
theorem evo_congr {d : Int} {x : Option Ar} (h : ∀ s ∈ slO x, lk fr s = lk fr' s) : evo fr d x = evo fr' d x := by
  cases x with
  | none => rfl
  | some x => exact ev_congr h
theorem lay_congr {K : Sv → Prop} {n : Nat} : ∀ {ps : List (Nat × Nat × Ar)} {hd : List Int} {f : By}, (∀ s ∈ slP ps, lk fr s = lk fr' s) → lay fr K n ps hd f → lay fr' K n ps hd f
  | [], _, _, _, h => h
  | (off, sz, x) :: r, hd, f, hs, h => by
    simp only [slP, List.mem_append] at hs
    have ih := fun (hd : List Int) (f : By) => lay_congr (K := K) (n := n) (ps := r) (hd := hd) (f := f) (fun s h => hs s (.inr h))
    simp only [lay] at h ⊢
    rw [← ev_congr (x := x) fun s h => hs s (.inl h)]
    split at h
    · split at h
      · rename_i hb; (try rw [hb]); exact ih _ _ h
      · exact h.elim
    · split at h
      · rename_i hb; (try rw [hb]); exact ih _ _ h
      · exact h.elim
    · split at h
      · rename_i hb; (try rw [hb]); exact ih _ _ h
      · exact h.elim
    · exact h.elim
theorem layb_congr {K : By → Prop} {esz : Nat} : ∀ {xs : List Ar} {j : Nat} {f : By}, (∀ s ∈ slL xs, lk fr s = lk fr' s) → layb fr K esz xs j f → layb fr' K esz xs j f
  | [], _, _, _, h => h
  | x :: r, j, f, hs, h => by
    simp only [slL, List.mem_append] at hs
    have ih := fun (j : Nat) (f : By) => layb_congr (K := K) (esz := esz) (xs := r) (j := j) (f := f) (fun s h => hs s (.inr h))
    simp only [layb] at h ⊢
    rw [← ev_congr (x := x) fun s h => hs s (.inl h)]
    split at h
    · split at h
      · rename_i hb; (try rw [hb]); exact ih _ _ h
      · exact h.elim
    · exact h.elim

theorem vop_congr {o : PO} {K : Sv → List Blk → Prop} (h : ∀ s ∈ o.sl, lk fr s = lk fr' s) (hv : vop P ρ fr H o K) : vop P ρ fr' H o K := by
  cases o with
  | mov x => simp only [vop] at *; rw [← ev_congr h]; exact hv
  | pick c x y =>
    simp only [PO.sl, List.mem_append] at h
    simp only [vop] at *
    rw [← ev_congr (x := c) fun s hs => h s (.inl (.inl hs)), ← ev_congr (x := x) fun s hs => h s (.inl (.inr hs)), ← ev_congr (x := y) fun s hs => h s (.inr hs)]
    exact hv
  | alo z => exact hv
  | box x => simp only [vop] at *; rw [← ev_congr h]; exact hv
  | bld hh n ps => exact lay_congr h hv
  | lda x _ _ => simp only [vop] at *; rw [← ev_congr h]; exact hv
  | ld8 x => simp only [vop] at *; rw [← ev_congr h]; exact hv
  | ld1 x => simp only [vop] at *; rw [← ev_congr h]; exact hv
  | sta x v n =>
    simp only [PO.sl, List.mem_append] at h
    simp only [vop] at *
    rw [← ev_congr (x := x) fun s hs => h s (.inl hs), ← ev_congr (x := v) fun s hs => h s (.inr hs)]; exact hv
  | st8 x v =>
    simp only [PO.sl, List.mem_append] at h
    simp only [vop] at *
    rw [← ev_congr (x := x) fun s hs => h s (.inl hs), ← ev_congr (x := v) fun s hs => h s (.inr hs)]; exact hv
  | st1 x v =>
    simp only [PO.sl, List.mem_append] at h
    simp only [vop] at *
    rw [← ev_congr (x := x) fun s hs => h s (.inl hs), ← ev_congr (x := v) fun s hs => h s (.inr hs)]; exact hv
  | nck x => simp only [vop] at *; rw [← ev_congr h]; exact hv
  | bin op x y =>
    simp only [PO.sl, List.mem_append] at h
    simp only [vop] at *
    rw [← ev_congr (x := x) fun s hs => h s (.inl hs), ← ev_congr (x := y) fun s hs => h s (.inr hs)]; exact hv
  | nt x => simp only [vop] at *; rw [← ev_congr h]; exact hv
  | eqa neg n x y =>
    simp only [PO.sl, List.mem_append] at h
    simp only [vop] at *
    rw [← ev_congr (x := x) fun s hs => h s (.inl hs), ← ev_congr (x := y) fun s hs => h s (.inr hs)]; exact hv
  | eqn neg x => simp only [vop] at *; rw [← ev_congr h]; exact hv
  | cvt k x => simp only [vop] at *; rw [← ev_congr h]; exact hv
  | mkf f a b =>
    simp only [PO.sl, List.mem_append] at h
    simp only [vop] at *
    rw [← evs_congr (xs := a) fun s hs => h s (.inl hs), ← evs_congr (xs := b) fun s hs => h s (.inr hs)]; exact hv
  | add x c => simp only [vop] at *; rw [← ev_congr h]; exact hv
  | idx x i l e =>
    simp only [PO.sl, List.mem_append] at h
    simp only [vop] at *
    rw [← ev_congr (x := x) fun s hs => h s (.inl hs), ← ev_congr (x := i) fun s hs => h s (.inr hs)]; exact hv
  | ids x i e =>
    simp only [PO.sl, List.mem_append] at h
    simp only [vop] at *
    rw [← ev_congr (x := x) fun s hs => h s (.inl hs), ← ev_congr (x := i) fun s hs => h s (.inr hs)]; exact hv
  | ixb x i l =>
    simp only [PO.sl, List.mem_append] at h
    simp only [vop] at *
    rw [← ev_congr (x := x) fun s hs => h s (.inl hs), ← ev_congr (x := i) fun s hs => h s (.inr hs)]; exact hv
  | ixa x i l e =>
    simp only [PO.sl, List.mem_append] at h
    simp only [vop] at *
    rw [← ev_congr (x := x) fun s hs => h s (.inl hs), ← ev_congr (x := i) fun s hs => h s (.inr hs)]; exact hv
  | ext x j => simp only [vop] at *; rw [← ev_congr h]; exact hv
  | call f as => simp only [vop] at *; rw [← evs_congr h]; exact hv
  | calv x as =>
    simp only [PO.sl, List.mem_append] at h
    simp only [vop] at *
    rw [← ev_congr (x := x) fun s hs => h s (.inl hs), ← evs_congr (xs := as) fun s hs => h s (.inr hs)]; exact hv
  | len x => simp only [vop] at *; rw [← ev_congr h]; exact hv
  | slc x lo hi e =>
    simp only [PO.sl, List.mem_append] at h
    simp only [vop] at *
    rw [← ev_congr (x := x) fun s hs => h s (.inl (.inl hs))]
    split at hv
    · rw [← evo_congr (x := lo) fun s hs => h s (.inl (.inr hs)), ← evo_congr (x := hi) fun s hs => h s (.inr hs)]; exact hv
    · exact hv
  | bsa xs => simp only [vop] at *; rw [← evs_congr h]; exact hv
  | bsb e xs => exact layb_congr h hv

/-! ### an operation yields one value and one heap -/
def Wit (V : (Sv → List Blk → Prop) → Prop) (K : Sv → List Blk → Prop) : Prop := ∃ v H', K v H' ∧ ∀ K' : Sv → List Blk → Prop, K' v H' → V K'

theorem vcall_wit {f : Nat} {l : List At} {K : Sv → List Blk → Prop} (h : vcall P ρ H f l K) : Wit (vcall P ρ H f l) K := by
  obtain ⟨m, τ, as, Hc, v, Hc', H', h0, h1, h2, h3, h4, h6, h5⟩ := h
  exact ⟨_, _, h5, fun K' h' => ⟨m, τ, as, Hc, v, Hc', H', h0, h1, h2, h3, h4, h6, h'⟩⟩

theorem lay_wit {n : Nat} : ∀ {ps : List (Nat × Nat × Ar)} {hd : List Int} {f : By} {K : Sv → Prop}, lay fr K n ps hd f → ∃ v, K v ∧ ∀ K' : Sv → Prop, K' v → lay fr K' n ps hd f
  | [], hd, f, K, h => ⟨_, h, fun _ h => h⟩
  | (off, sz, x) :: r, hd, f, K, h => by
    simp only [lay] at h ⊢
    split at h
    · split at h
      · rename_i hb; (try rw [hb]); exact lay_wit h
      · exact h.elim
    · split at h
      · rename_i hb; (try rw [hb]); exact lay_wit h
      · exact h.elim
    · split at h
      · rename_i hb; (try rw [hb]); exact lay_wit h
      · exact h.elim
    · exact h.elim
theorem layb_wit {esz : Nat} : ∀ {xs : List Ar} {j : Nat} {f : By} {K : By → Prop}, layb fr K esz xs j f → ∃ v, K v ∧ ∀ K' : By → Prop, K' v → layb fr K' esz xs j f
  | [], _, f, K, h => ⟨_, h, fun _ h => h⟩
  | x :: r, j, f, K, h => by
    simp only [layb] at h ⊢
    split at h
    · split at h
      · rename_i hb; (try rw [hb]); exact layb_wit h
      · exact h.elim
    · exact h.elim

theorem vbin_wit {op : BinOp} {x y : Option Sv} {K : Sv → Prop} (h : vbin op K x y) : ∃ v, K v ∧ ∀ K' : Sv → Prop, K' v → vbin op K' x y := by
  unfold vbin at h ⊢
  split at h
  · split at h
    · obtain ⟨z, e, h⟩ := h; exact ⟨_, h, fun _ h' => ⟨z, e, h'⟩⟩
    · obtain ⟨z, e, h⟩ := h; exact ⟨_, h, fun _ h' => ⟨z, e, h'⟩⟩
    · obtain ⟨z, e, h⟩ := h; exact ⟨_, h, fun _ h' => ⟨z, e, h'⟩⟩
    · obtain ⟨h0, z, e, h⟩ := h; exact ⟨_, h, fun _ h' => ⟨h0, z, e, h'⟩⟩
    · obtain ⟨h0, z, e, h⟩ := h; exact ⟨_, h, fun _ h' => ⟨h0, z, e, h'⟩⟩
    · exact ⟨_, h, fun _ h => h⟩
    · exact ⟨_, h, fun _ h => h⟩
    · exact ⟨_, h, fun _ h => h⟩
    · exact ⟨_, h, fun _ h => h⟩
    · exact ⟨_, h, fun _ h => h⟩
    · exact ⟨_, h, fun _ h => h⟩
    · exact h.elim
  · split at h
    · exact ⟨_, h, fun _ h => h⟩
    · exact ⟨_, h, fun _ h => h⟩
    · exact h.elim
  · exact h.elim

theorem vop_wit {o : PO} {K : Sv → List Blk → Prop} (hv : vop P ρ fr H o K) : Wit (vop P ρ fr H o) K := by
  cases o with
  | pick c x y =>
    simp only [Wit, vop] at hv ⊢
    split at hv
    · rename_i b hb
      replace hv := brB_elim hv
      split at hv
      · rename_i v hx
        refine ⟨_, _, hv, fun K' h => ?_⟩
        refine brB_intro (fun e => ?_) (fun e => ?_) <;> subst e <;> simp only [if_true, Bool.false_eq_true, if_false] at hx ⊢ <;> rw [hx] <;> exact h
      · exact hv.elim
    · exact hv.elim
  | bld hh n ps =>
    obtain ⟨v, h1, h2⟩ := lay_wit hv
    exact ⟨v, H, h1, fun K' h => h2 _ h⟩
  | bin op x y =>
    simp only [Wit, vop] at hv ⊢
    obtain ⟨v, h1, h2⟩ := vbin_wit hv
    exact ⟨v, H, h1, fun K' h => h2 (fun v => K' v H) h⟩
  | eqa neg n x y =>
    simp only [Wit, vop] at hv ⊢
    split at hv
    · split at hv
      · rename_i hb; (try simp only [hb]); exact ⟨_, _, hv, fun _ h => h⟩
      · exact hv.elim
    · exact hv.elim
  | eqn neg x =>
    simp only [Wit, vop] at hv ⊢
    split at hv
    · exact ⟨_, _, hv, fun _ h => h⟩
    · exact ⟨_, _, hv, fun _ h => h⟩
    · exact hv.elim
  | call f as =>
    simp only [Wit, vop] at hv ⊢
    split at hv
    · exact vcall_wit hv
    · exact hv.elim
  | calv x as =>
    simp only [Wit, vop] at hv ⊢
    split at hv
    · exact vcall_wit hv
    · exact hv.elim
  | bsb e xs =>
    obtain ⟨v, ⟨m, e, h1⟩, h2⟩ := layb_wit hv
    exact ⟨_, _, h1, fun K' h => h2 _ ⟨m, e, h⟩⟩
  | alo z => obtain ⟨m, e, h⟩ := hv; exact ⟨_, _, h, fun _ h => ⟨m, e, h⟩⟩
  | _ =>
    simp only [Wit, vop] at hv ⊢
    (repeat' split at hv) <;> first
      | exact hv.elim
      | exact ⟨_, _, hv, fun _ h => h⟩
      | exact ⟨_, _, hv.2, fun _ h => ⟨hv.1, h⟩⟩
      | (obtain ⟨x, y, e1, e2, e3, h⟩ := hv; exact ⟨_, _, h, fun _ h => ⟨x, y, e1, e2, e3, h⟩⟩)
      | (obtain ⟨z, e, h⟩ := hv; exact ⟨_, _, h, fun _ h => ⟨z, e, h⟩⟩)
      | (obtain ⟨z, e1, e2, e3, h⟩ := hv; exact ⟨_, _, h, fun _ h => ⟨z, e1, e2, e3, h⟩⟩)
      | (obtain ⟨z, q, e1, e2, e3, h⟩ := hv; exact ⟨_, _, h, fun _ h => ⟨z, q, e1, e2, e3, h⟩⟩)
      | exact hv.2.elim
end
end Hf
/- The engine, part 11: a region whose order Go leaves open. -/
namespace Hf
open Go

/-- a new variable of such a region: its operation, its slot, what it holds at first; the store into it: its operation, what is stored, its size -/
structure NI where
  i : Nat
  d : Nat
  z : Zk
  s : Option (Nat × Ar × Nat)

def Zk.size : Zk → Nat
  | .by _ n => n
  | _ => 1

def PO.pure : PO → Bool
  | .call _ _ => false
  | .calv _ _ => false
  | .alo _ => false
  | .box _ => false
  | .sta _ _ _ => false
  | .st8 _ _ => false
  | .st1 _ _ => false
  | .bsa _ => false
  | .bsb _ _ => false
  | _ => true

section
variable (P : Program) (ρ : Nat → FuncId)
/-- an operation that leaves the blocks as they are -/
def vopX (fr : List (Nat × Sv)) (H : List Blk) (o : PO) (K : Sv → Prop) : Prop := match o.pure with
  | true => vop P ρ fr H o fun v _ => K v
  | false => vop P ρ fr H o fun v H' => H' = H ∧ K v

def xstep (H : List Blk) (p : Nat × PI) (fr : List (Nat × Sv)) (K : List (Nat × Sv) → Prop) : Prop := match p with
  | (_, ⟨d, none, op⟩) => vopX P ρ fr H op fun v => K (push d v fr)
  | (_, ⟨d, some (s, b), op⟩) => match lk fr s with
      | some (.one (.b g)) => brB g fun g' => gdo (g' == b) (fun K' => vopX P ρ ((s, .one (.b g')) :: fr) H op fun v => K' v H) d ((s, .one (.b g')) :: fr) H fun fr' _ => K fr'
      | some (.tup _) => K (push d (.tup []) fr)
      | _ => False
noncomputable def vX (H : List Blk) (xs : List (Nat × PI)) : List (Nat × Sv) → (List (Nat × Sv) → Prop) → Prop :=
  List.rec (motive := fun _ => List (Nat × Sv) → (List (Nat × Sv) → Prop) → Prop) (fun fr Q => Q fr) (fun p _ ih fr Q => xstep P ρ H p fr fun fr' => ih fr' Q) xs
variable {P ρ}
theorem vX_c {H : List Blk} {p : Nat × PI} {r : List (Nat × PI)} {fr : List (Nat × Sv)} {Q : List (Nat × Sv) → Prop} : vX P ρ H (p :: r) fr Q = match p.2.g with
    | none => vopX P ρ fr H p.2.op fun v => vX P ρ H r (push p.2.d v fr) Q
    | some (s, b) => match lk fr s with
      | some (.one (.b g)) => brB g fun g' => gdo (g' == b) (fun K => vopX P ρ ((s, .one (.b g')) :: fr) H p.2.op fun v => K v H) p.2.d ((s, .one (.b g')) :: fr) H fun fr' _ => vX P ρ H r fr' Q
      | some (.tup _) => vX P ρ H r (push p.2.d (.tup []) fr) Q
      | _ => False := by
  obtain ⟨i, d, g, op⟩ := p
  rcases g with _ | ⟨s, b⟩ <;> rfl
end

/-- what a new variable holds in the end -/
def vcont (fr : List (Nat × Sv)) (q : NI) (K : Bk → Prop) : Prop := match q.s with
  | none => K q.z.bk
  | some (_, x, _) => match ev fr x with
    | some (.one (.ag hd n f)) => match q.z with
      | .by _ m => n = m ∧ K (.by hd n f)
      | _ => False
    | some (.one a) => match q.z with
      | .by _ _ => False
      | _ => a.cell1 = true ∧ K (.vr a)
    | _ => False

def nstep (fr0 : List (Nat × Sv)) (q : NI) (fr : List (Nat × Sv)) (H : List Blk) (K : List (Nat × Sv) → List Blk → Prop) : Prop :=
  ∃ m, H.length = m ∧ vcont fr0 q fun c => K ((q.d, .one (.pt m 0)) :: fr) (H ++ [⟨false, c⟩])
noncomputable def vN (fr0 : List (Nat × Sv)) (ns : List NI) : List (Nat × Sv) → List Blk → (St → Prop) → Prop :=
  List.rec (motive := fun _ => List (Nat × Sv) → List Blk → (St → Prop) → Prop) (fun fr H Q => Q ⟨fr, H⟩) (fun q _ ih fr H Q => nstep fr0 q fr H fun fr' H' => ih fr' H' Q) ns

noncomputable def vdrx (P : Program) (ρ : Nat → FuncId) (xs : List (Nat × PI)) (ns : List NI) (fs : List (Nat × PI)) (st : St) (Q : St → Prop) : Prop := match st with
  | ⟨fr, hp⟩ => vX P ρ hp xs fr fun fr => vN fr ns fr hp fun st' => vregp P ρ fs st' Q
noncomputable def vdrw (P : Program) (ρ : Nat → FuncId) (es xs : List (Nat × PI)) (ns : List NI) (fs : List (Nat × PI)) (st : St) (Q : St → Prop) : Prop :=
  vregp P ρ es st fun st' => vdrx P ρ xs ns fs st' Q

/-! ### the check -/
def bt (B : List Nat) (i j : Nat) : Bool := (B.getD i 0).testBit j
def needs (o : Oper) : List Nat := (o.after.toList.filter (Region.binds .any)).map (·.on)
def upB (B : List Nat) : List Nat → Nat
  | [] => 0
  | n :: r => (2 ^ n ||| B.getD n 0) ||| upB B r
def okB (ops : Array Oper) (B : List Nat) : Bool := (List.range ops.size).all fun d => match ops[d]? with
  | some o => (needs o).all (fun n => decide (n < d)) && ((B.getD d 0 ||| upB B (needs o)) == upB B (needs o))
  | none => false
def nodupB : List Nat → Bool
  | [] => true
  | x :: r => !r.contains x && nodupB r
def storeIx (ns : List NI) : List Nat := ns.filterMap fun q => q.s.map (·.1)
def dstOf (ops : Array Oper) (i : Nat) : Option Nat := (ops[i]?).bind (·.dst)
def guardSl : Option (Nat × Bool) → List Nat
  | none => []
  | some (s, _) => [s]
/-- slot s is read by operation x, 'bf' being what was done before it -/
def readOk (ops : Array Oper) (B : List Nat) (bf : List Nat) (x : Nat) (s : Nat) : Bool :=
  (List.range ops.size).all fun j => dstOf ops j != some s || (j != x && (if bf.contains j then bt B x j else bt B j x))
def chkX (P : Program) (ρ : Nat → FuncId) (N : Nat) (ops : Array Oper) (B : List Nat) : List Nat → List (Nat × PI) → Bool
  | bf, (i, p) :: r => (match ops[i]? with
    | some o => chkI P ρ N ops o p
    | none => false) && (p.op.sl ++ guardSl p.g).all (readOk ops B bf i) && chkX P ρ N ops B (i :: bf) r
  | _, [] => true
def chkN (P : Program) (ρ : Nat → FuncId) (N : Nat) (ops : Array Oper) (B : List Nat) (bf : List Nat) (q : NI) : Bool :=
  (match ops[q.i]? with
    | some o => o.dst == some q.d && decide (q.d < N) && o.guard.isNone && chkOp P ρ o.op (.alo q.z)
    | none => false) &&
  match q.s with
  | none => true
  | some (j, x, m) => bt B j q.i && q.z.size == m && x.sl.all (readOk ops B bf j) && match ops[j]? with
    | some o => o.dst.isNone && o.guard.isNone && (match o.op with
      | .store t (.tmp d) v => d == q.d && sizeT P t == some m && chkAr ρ v x
      | _ => false)
    | none => false
def chkF (P : Program) (ρ : Nat → FuncId) (N : Nat) (ops : Array Oper) (B : List Nat) : List Nat → List (Nat × PI) → Bool
  | bf, (i, p) :: r => (match ops[i]? with
    | some o => chkI P ρ N ops o p
    | none => false) && bf.all (bt B i) && chkF P ρ N ops B (i :: bf) r
  | _, [] => true
/-- the operations that all others wait for, one behind the other -/
def chkE (P : Program) (ρ : Nat → FuncId) (N : Nat) (ops : Array Oper) (B : List Nat) : List Nat → List (Nat × PI) → Bool
  | bf, (i, p) :: r => (match ops[i]? with
    | some o => chkI P ρ N ops o p
    | none => false) && (List.range ops.size).all (fun k => bf.contains k || k == i || bt B k i) && chkE P ρ N ops B (i :: bf) r
  | _, [] => true
def chkDrw (P : Program) (ρ : Nat → FuncId) (N : Nat) (ops : Array Oper) (es xs : List (Nat × PI)) (ns : List NI) (fs : List (Nat × PI)) (B : List Nat) : Bool :=
  let ei := es.map (·.1)
  let xi := xs.map (·.1)
  let early := xi ++ (ns.map (·.i) ++ storeIx ns)
  okB ops B && nodupB (ei ++ (early ++ fs.map (·.1))) && (List.range ops.size).all (fun i => (ei ++ (early ++ fs.map (·.1))).contains i) && nodupB ((List.range ops.size).filterMap (dstOf ops)) &&
    chkX P ρ N ops B ei xs && ns.all (chkN P ρ N ops B (xi ++ ei)) && chkF P ρ N ops B early fs && chkE P ρ N ops B [] es

/-! ### what an operation waits for -/
section
variable {ops : Array Oper} {B : List Nat}

theorem upB_bit {j : Nat} : ∀ {l : List Nat}, (upB B l).testBit j = true → ∃ n ∈ l, n = j ∨ bt B n j = true
  | [], h => by simp [upB] at h
  | n :: r, h => by
    simp only [upB, Nat.testBit_or, Bool.or_eq_true] at h
    rcases h with (h | h) | h
    · rw [Nat.testBit_two_pow] at h
      exact ⟨n, by simp, .inl (by simpa using h)⟩
    · exact ⟨n, by simp, .inr h⟩
    · obtain ⟨m, h1, h2⟩ := upB_bit h
      exact ⟨m, by simp [h1], h2⟩

theorem okB_spec (h : okB ops B = true) {d : Nat} {o : Oper} (ho : ops[d]? = some o) : (∀ n ∈ needs o, n < d) ∧ ∀ j, bt B d j = true → ∃ n ∈ needs o, n = j ∨ bt B n j = true := by
  have hd : d < ops.size := (Array.getElem?_eq_some_iff.1 ho).1
  have := List.all_eq_true.1 h d (List.mem_range.2 hd)
  rw [ho] at this
  simp only [Bool.and_eq_true, List.all_eq_true, decide_eq_true_eq, beq_iff_eq] at this
  refine ⟨this.1, fun j hj => ?_⟩
  apply upB_bit
  rw [← this.2, Nat.testBit_or]
  unfold bt at hj
  rw [hj, Bool.true_or]

/-- what is done is closed -/
def Closed (ops : Array Oper) (D : Nat → Prop) : Prop := ∀ i o, ops[i]? = some o → D i → ∀ n ∈ needs o, D n

theorem Closed.wait {D : Nat → Prop} (hB : okB ops B = true) (hc : Closed ops D) : ∀ (d : Nat), d < ops.size → D d → ∀ j, bt B d j = true → D j := by
  intro d
  induction d using Nat.strongRecOn with
  | _ d ih =>
    intro hd hD j hj
    have ho : ops[d]? = some ops[d] := Array.getElem?_eq_getElem hd
    obtain ⟨h1, h2⟩ := okB_spec hB ho
    obtain ⟨n, hn, h⟩ := h2 j hj
    have hDn := hc d _ ho hD n hn
    rcases h with rfl | h
    · exact hDn
    · exact ih n (h1 n hn) (by have := h1 n hn; omega) hDn j h
theorem Closed.ready {D : Nat → Prop} (hB : okB ops B = true) (hc : Closed ops D) {d : Nat} {o : Oper} (ho : ops[d]? = some o) (hn : ∀ n ∈ needs o, D n) : ∀ j, bt B d j = true → D j := by
  intro j hj
  obtain ⟨h1, h2⟩ := okB_spec hB ho
  obtain ⟨n, hm, h⟩ := h2 j hj
  have hd : d < ops.size := (Array.getElem?_eq_some_iff.1 ho).1
  rcases h with rfl | h
  · exact hn _ hm
  · exact hc.wait hB n (by have := h1 n hm; omega) (hn n hm) j h
end

section
variable {P : Program} {ρ : Nat → FuncId} {H : List Blk} {fr : List (Nat × Sv)}

theorem pure_heap {o : PO} (ho : o.pure = true) {K : Sv → List Blk → Prop} (hv : vop P ρ fr H o K) : ∃ v, K v H ∧ ∀ K' : Sv → List Blk → Prop, K' v H → vop P ρ fr H o K' := by
  cases o with
  | pick c x y =>
    obtain ⟨v, H', h1, h2⟩ := vop_wit hv
    have : vop P ρ fr H (.pick c x y) (fun v' H'' => (v' = v ∧ H'' = H') ∧ H'' = H) := by
      have h3 := h2 (fun v' H'' => v' = v ∧ H'' = H') ⟨rfl, rfl⟩
      simp only [vop] at h3 ⊢
      split at h3
      · rename_i b hb
        replace h3 := brB_elim h3
        split at h3
        · rename_i u hx
          refine brB_intro (fun e => ?_) (fun e => ?_) <;> subst e <;> simp only [if_true, Bool.false_eq_true, if_false] at hx ⊢ <;> rw [hx] <;> first | exact ⟨h3, rfl⟩ | exact ⟨h3, trivial⟩
        · exact h3.elim
      · exact h3.elim
    obtain ⟨v2, H2, ⟨⟨rfl, rfl⟩, rfl⟩, -⟩ := vop_wit this
    exact ⟨v2, h1, h2⟩
  | bld hh n ps =>
    obtain ⟨v, h1, h2⟩ := lay_wit hv
    exact ⟨v, h1, fun K' h => h2 _ h⟩
  | bin op x y =>
    simp only [vop] at hv ⊢
    obtain ⟨v, h1, h2⟩ := vbin_wit hv
    exact ⟨v, h1, fun K' h => h2 (fun v => K' v H) h⟩
  | eqa neg n x y =>
    simp only [vop] at hv ⊢
    split at hv
    · split at hv
      · rename_i hb; (try simp only [hb]); exact ⟨_, hv, fun _ h => h⟩
      · exact hv.elim
    · exact hv.elim
  | eqn neg x =>
    simp only [vop] at hv ⊢
    split at hv
    · exact ⟨_, hv, fun _ h => h⟩
    · exact ⟨_, hv, fun _ h => h⟩
    · exact hv.elim
  | call f as => cases ho
  | calv x as => cases ho
  | bsb e xs => cases ho
  | alo z => cases ho
  | box z => cases ho
  | sta x v n => cases ho
  | st8 x v => cases ho
  | st1 x v => cases ho
  | bsa xs => cases ho
  | _ =>
    simp only [vop] at hv ⊢
    (repeat' split at hv) <;> first
      | exact hv.elim
      | exact ⟨_, hv, fun _ h => h⟩
      | exact ⟨_, hv.2, fun _ h => ⟨hv.1, h⟩⟩
      | (obtain ⟨x, y, e1, e2, e3, h⟩ := hv; exact ⟨_, h, fun _ h => ⟨x, y, e1, e2, e3, h⟩⟩)
      | (obtain ⟨z, e, h⟩ := hv; exact ⟨_, h, fun _ h => ⟨z, e, h⟩⟩)
      | (obtain ⟨z, e1, e2, e3, h⟩ := hv; exact ⟨_, h, fun _ h => ⟨z, e1, e2, e3, h⟩⟩)
      | (obtain ⟨z, q, e1, e2, e3, h⟩ := hv; exact ⟨_, h, fun _ h => ⟨z, q, e1, e2, e3, h⟩⟩)
      | exact hv.2.elim

theorem vopX_wit {o : PO} {K : Sv → Prop} (hv : vopX P ρ fr H o K) : ∃ v, K v ∧ vop P ρ fr H o (fun v' H' => v' = v ∧ H' = H) := by
  unfold vopX at hv
  split at hv
  · rename_i ho
    obtain ⟨v, h1, h2⟩ := pure_heap ho hv
    exact ⟨v, h1, h2 _ ⟨rfl, rfl⟩⟩
  · obtain ⟨v, H', ⟨rfl, h1⟩, h2⟩ := vop_wit hv
    exact ⟨v, h1, h2 _ ⟨rfl, rfl⟩⟩

/-- a guard that is not met -/
def offB (b : Bool) : Sv → Bool
  | .one (.b g) => g != b
  | .tup _ => true
  | _ => false
/-- one operation of the list, with what it yields -/
def One (P : Program) (ρ : Nat → FuncId) (H : List Blk) (fr : List (Nat × Sv)) (p : PI) (v : Sv) : Prop := match p.g with
  | none => vop P ρ fr H p.op (fun v' H' => v' = v ∧ H' = H)
  | some (s, b) => ∃ u, lk fr s = some u ∧ ((u = .one (.b b) ∧ vop P ρ fr H p.op (fun v' H' => v' = v ∧ H' = H)) ∨ (offB b u = true ∧ v = .tup []))

def ResL (P : Program) (ρ : Nat → FuncId) (H : List Blk) : List (Nat × PI × Sv) → List (Nat × Sv) → List (Nat × Sv) → Prop
  | [], fr, fr' => ∀ s, lk fr' s = lk fr s
  | x :: r, fr, fr' => One P ρ H fr x.2.1 x.2.2 ∧ ResL P ρ H r (push x.2.1.d x.2.2 fr) fr'

theorem lk_dup {s : Nat} {v : Sv} (h : lk fr s = some v) (t : Nat) : lk ((s, v) :: fr) t = lk fr t := by
  simp only [lk]
  split
  · rename_i e; rw [← e]; exact h.symm
  · rfl
theorem lk_push_congr {fr fr' : List (Nat × Sv)} {d : Option Nat} {v : Sv} (h : ∀ t, lk fr t = lk fr' t) (t : Nat) : lk (push d v fr) t = lk (push d v fr') t := by
  rw [lk_push, lk_push, h]
theorem One_congr {fr fr' : List (Nat × Sv)} {p : PI} {v : Sv} (h : ∀ t, lk fr t = lk fr' t) (ho : One P ρ H fr p v) : One P ρ H fr' p v := by
  unfold One at *
  split
  · rename_i hg; simp only [hg] at ho; exact vop_congr (fun s _ => h s) ho
  · rename_i s b hg; simp only [hg] at ho
    obtain ⟨g, h1, h2⟩ := ho
    exact ⟨g, by rw [← h]; exact h1, h2.imp (fun e => ⟨e.1, vop_congr (fun s _ => h s) e.2⟩) id⟩
theorem ResL_congr : ∀ {L : List (Nat × PI × Sv)} {fr1 fr2 fr' : List (Nat × Sv)}, (∀ t, lk fr1 t = lk fr2 t) → ResL P ρ H L fr1 fr' → ResL P ρ H L fr2 fr'
  | [], _, _, _, h, hr => fun s => (hr s).trans (h s)
  | x :: r, _, _, _, h, hr => ⟨One_congr h hr.1, ResL_congr (lk_push_congr h) hr.2⟩

theorem vX_res : ∀ {xs : List (Nat × PI)} {fr : List (Nat × Sv)} {Q : List (Nat × Sv) → Prop}, vX P ρ H xs fr Q → ∃ (L : List (Nat × PI × Sv)) (fr' : List (Nat × Sv)), L.map (fun x => (x.1, x.2.1)) = xs ∧ ResL P ρ H L fr fr' ∧ Q fr'
  | [], fr, Q, h => ⟨[], fr, rfl, fun _ => rfl, h⟩
  | (i, p) :: r, fr, Q, h => by
    rw [vX_c] at h
    simp only at h
    split at h
    · rename_i hg
      obtain ⟨v, h1, h2⟩ := vopX_wit h
      obtain ⟨L, fr', e1, e2, e3⟩ := vX_res h1
      exact ⟨(i, p, v) :: L, fr', by simp [e1], ⟨by unfold One; rw [hg]; exact h2, e2⟩, e3⟩
    · rename_i s b hg
      split at h
      · rename_i g hlk
        replace h := brB_elim h
        unfold gdo at h
        have hd := lk_dup hlk
        split at h
        · rename_i hgb
          obtain ⟨v, h1, h2⟩ := vopX_wit h
          obtain ⟨L, fr', e1, e2, e3⟩ := vX_res h1
          refine ⟨(i, p, v) :: L, fr', by simp [e1], ⟨?_, ResL_congr (lk_push_congr hd) e2⟩, e3⟩
          unfold One; rw [hg]
          have hgb' : g = b := by simpa using hgb
          exact ⟨_, hlk, .inl ⟨by rw [hgb'], vop_congr (fun s _ => hd s) h2⟩⟩
        · rename_i hgb
          obtain ⟨L, fr', e1, e2, e3⟩ := vX_res h
          refine ⟨(i, p, .tup []) :: L, fr', by simp [e1], ⟨?_, ResL_congr (lk_push_congr hd) e2⟩, e3⟩
          unfold One; rw [hg]
          have hgb' : g ≠ b := by simpa using hgb
          exact ⟨_, hlk, .inr ⟨by simp [offB, hgb'], rfl⟩⟩
      · rename_i l hlk
        obtain ⟨L, fr', e1, e2, e3⟩ := vX_res h
        refine ⟨(i, p, .tup []) :: L, fr', by simp [e1], ⟨?_, e2⟩, e3⟩
        unfold One; rw [hg]
        exact ⟨_, hlk, .inr ⟨rfl, rfl⟩⟩
      · exact h.elim

/-- behind the list: what a slot holds -/
theorem ResL_lk : ∀ {L : List (Nat × PI × Sv)} {fr fr' : List (Nat × Sv)} {s : Nat} {u : Sv}, ResL P ρ H L fr fr' → lk fr' s = some u →
    (∃ y ∈ L, y.2.1.d = some s ∧ (∀ z ∈ L, z.2.1.d = some s → z.1 = y.1 → z.2.2 = u)) ∨ ((∀ y ∈ L, y.2.1.d ≠ some s) ∧ lk fr s = some u) ∨ ∃ y ∈ L, ∃ z ∈ L, y.2.1.d = some s ∧ z.2.1.d = some s ∧ y ≠ z
  | [], fr, fr', s, u, h, e => .inr (.inl ⟨by simp, by rw [← h s]; exact e⟩)
  | x :: r, fr, fr', s, u, h, e => by
    by_cases hx : x.2.1.d = some s
    · by_cases hr : ∃ y ∈ r, y.2.1.d = some s ∧ y ≠ x
      · obtain ⟨y, hy, hyd, hne⟩ := hr
        exact .inr (.inr ⟨y, by simp [hy], x, by simp, hyd, hx, hne⟩)
      · refine .inl ⟨x, by simp, hx, ?_⟩
        have hr' : ∀ y ∈ r, y.2.1.d = some s → y = x := fun y hy hyd => Classical.byContradiction fun hne => hr ⟨y, hy, hyd, hne⟩
        rcases ResL_lk h.2 e with ⟨y, hy, hyd, hall⟩ | ⟨hno, hlk⟩ | ⟨y, hy, z, hz, hyd, hzd, hne⟩
        · have hyx := hr' y hy hyd
          have := hall y hy hyd rfl
          subst hyx
          intro z hz hzd hzi
          rcases List.mem_cons.1 hz with rfl | hz
          · exact this
          · rw [hr' z hz hzd]; exact this
        · rw [lk_push, hx, if_pos rfl] at hlk
          cases hlk
          intro z hz hzd _
          rcases List.mem_cons.1 hz with rfl | hz
          · rfl
          · exact (hno z hz hzd).elim
        · exact (hne ((hr' y hy hyd).trans (hr' z hz hzd).symm)).elim
    · rcases ResL_lk h.2 e with ⟨y, hy, hyd, hall⟩ | ⟨hno, hlk⟩ | ⟨y, hy, z, hz, hyd, hzd, hne⟩
      · refine .inl ⟨y, by simp [hy], hyd, ?_⟩
        intro z hz hzd hzi
        rcases List.mem_cons.1 hz with rfl | hz
        · exact (hx hzd).elim
        · exact hall z hz hzd hzi
      · refine .inr (.inl ⟨?_, ?_⟩)
        · intro y hy
          rcases List.mem_cons.1 hy with rfl | hy
          · exact hx
          · exact hno y hy
        · rw [lk_push, if_neg hx] at hlk; exact hlk
      · exact .inr (.inr ⟨y, by simp [hy], z, by simp [hz], hyd, hzd, hne⟩)

/-- an operation of the list, in the frame in which the list has it -/
theorem ResL_at {L : List (Nat × PI × Sv)} {fr fr' : List (Nat × Sv)} {x : Nat × PI × Sv} (h : ResL P ρ H L fr fr') (hx : x ∈ L) :
    ∃ L1 L2 frx, L = L1 ++ x :: L2 ∧ ResL P ρ H L1 fr frx ∧ One P ρ H frx x.2.1 x.2.2 := by
  induction L generalizing fr with
  | nil => cases hx
  | cons y r ih =>
    rcases List.mem_cons.1 hx with rfl | hx
    · exact ⟨[], r, fr, rfl, fun _ => rfl, h.1⟩
    · obtain ⟨L1, L2, frx, e1, e2, e3⟩ := ih h.2 hx
      exact ⟨y :: L1, L2, frx, by simp [e1], ⟨h.1, e2⟩, e3⟩
end
end Hf
/- The engine, part 12: a region whose order Go leaves open is sound in whatever order. -/
namespace Hf
open Go

theorem nodupB_spec : ∀ {l : List Nat}, nodupB l = true → l.Nodup
  | [], _ => List.nodup_nil
  | x :: r, h => by
    simp only [nodupB, Bool.and_eq_true, Bool.not_eq_true', List.contains_eq_mem, decide_eq_false_iff_not] at h
    exact List.nodup_cons.2 ⟨h.1, nodupB_spec h.2⟩

section
variable {P : Program} {ρ : Nat → FuncId} {N : Nat} {ops : Array Oper} {B : List Nat}

theorem HRel.congr {σ σ' : Nat → Nat} {w : World} {H : List Blk} (h : HRel ρ σ w H) (hs : ∀ k, k < H.length → σ' k = σ k) : HRel ρ σ' w H where
  at_ := fun k B hB => by
    have hk := (List.getElem?_eq_some_iff.1 hB).1
    rw [hs k hk, cellsB_congr hs (h.clo k B hB)]
    exact h.at_ k B hB
  sep := fun j k B hjk hk hB hro => by
    have hj := (List.getElem?_eq_some_iff.1 hB).1
    rw [hs k hk, hs j hj]
    exact h.sep j k B hjk hk hB hro
  clo := h.clo

theorem Sp.congr {σ₀ σ σ' : Nat → Nat} {H₀ H : List Blk} {w₀ w : World} (h : Sp ρ σ₀ H₀ w₀ σ H w) (hs : ∀ k, k < H.length → σ' k = σ k) : Sp ρ σ₀ H₀ w₀ σ' H w where
  h := h.h.congr hs
  k := h.k
  len := h.len
  same := fun k hk => (hs k (Nat.lt_of_lt_of_le hk h.len)).trans (h.same k hk)
  rof := h.rof
  fresh := fun k h1 h2 => by rw [hs k h2]; exact h.fresh k h1 h2

/-- dst is written by one operation alone -/
theorem dst_inj (h : nodupB ((List.range ops.size).filterMap (dstOf ops)) = true) {i j s : Nat} (hi : dstOf ops i = some s) (hj : dstOf ops j = some s) : i = j := by
  have hn := nodupB_spec h
  have lt : ∀ {i s}, dstOf ops i = some s → i < ops.size := by
    intro i s hi
    unfold dstOf at hi
    obtain ⟨o, ho, -⟩ := Option.bind_eq_some_iff.1 hi
    exact (Array.getElem?_eq_some_iff.1 ho).1
  have key : ∀ (l : List Nat), (l.filterMap (dstOf ops)).Nodup → l.Nodup → i ∈ l → j ∈ l → i = j := by
    intro l
    induction l with
    | nil => intro _ _ h; cases h
    | cons x r ih =>
      intro h1 h2 hi' hj'
      obtain ⟨hx, h2⟩ := List.nodup_cons.1 h2
      have tail : (r.filterMap (dstOf ops)).Nodup := by
        simp only [List.filterMap_cons] at h1
        split at h1
        · exact h1
        · exact (List.nodup_cons.1 h1).2
      rcases List.mem_cons.1 hi' with hix | hir <;> rcases List.mem_cons.1 hj' with hjx | hjr
      · rw [hix, hjx]
      · subst hix
        simp only [List.filterMap_cons, hi] at h1
        exact ((List.nodup_cons.1 h1).1 (List.mem_filterMap.2 ⟨j, hjr, hj⟩)).elim
      · subst hjx
        simp only [List.filterMap_cons, hj] at h1
        exact ((List.nodup_cons.1 h1).1 (List.mem_filterMap.2 ⟨i, hir, hi⟩)).elim
      · exact ih tail h2 hir hjr
  exact key _ hn List.nodup_range (List.mem_range.2 (lt hi)) (List.mem_range.2 (lt hj))

theorem mem_unique {y z : Nat × PI × Sv} : ∀ {l : List (Nat × PI × Sv)}, (l.map (·.1)).Nodup → y ∈ l → z ∈ l → y.1 = z.1 → y = z
  | [], _, h, _, _ => by cases h
  | x :: r, h, hy, hz, e => by
    simp only [List.map_cons, List.nodup_cons] at h
    rcases List.mem_cons.1 hy with hyx | hyr <;> rcases List.mem_cons.1 hz with hzx | hzr
    · rw [hyx, hzx]
    · subst hyx
      exact (h.1 (by rw [e]; exact List.mem_map_of_mem hzr)).elim
    · subst hzx
      exact (h.1 (by rw [← e]; exact List.mem_map_of_mem hyr)).elim
    · exact mem_unique h.2 hyr hzr e

/-- what holds while the first part of the region goes on -/
structure DI (P : Program) (ρ : Nat → FuncId) (σ₀ : Nat → Nat) (H₀ : List Blk) (w₀ : World) (N : Nat) (ops : Array Oper) (fr : List (Nat × Sv)) (H : List Blk) (σ : Nat → Nat)
    (es : List Nat) (L : List (Nat × PI × Sv)) (ns : List NI) (ct : NI → Bk) (base : Nat) (D : Nat → Prop) (a : Act) (w : World) (bs : Nat → Nat) : Prop where
  clo : Closed ops D
  u : ∀ s v, lk fr s = some v → (∀ j, dstOf ops j = some s → j ∉ es → ¬ D j) → a.tmps[s]? = some (renS ρ σ v)
  x : ∀ y ∈ L, D y.1 → ∀ t, y.2.1.d = some t → a.tmps[t]? = some (renS ρ σ y.2.2)
  xl : ∀ y ∈ L, D y.1 → y.2.2.lt H.length = true
  sp : Sp ρ σ₀ H₀ w₀ σ H w
  nn : ∀ q ∈ ns, D q.i → a.tmps[q.d]? = some (.pointer (some ⟨bs q.i, 0, none⟩)) ∧ base ≤ bs q.i ∧ ∃ T, w.heap[bs q.i]? = some (.cells (cellsB ρ σ (ct q)) T (0, 0)) ∨ ((∃ j x m, q.s = some (j, x, m) ∧ ¬ D j) ∧ w.heap[bs q.i]? = some (.cells (cellsB ρ σ q.z.bk) T (0, 0)))
  nd : ∀ q ∈ ns, ∀ q' ∈ ns, D q.i → D q'.i → q.i ≠ q'.i → bs q.i ≠ bs q'.i
  lo : ∀ k, k < H.length → σ k < base
  bw : w₀.heap.size ≤ base
  bs_ : base ≤ w.heap.size
  sz : a.tmps.size = N
  df : a.defers = []

variable {σ₀ : Nat → Nat} {H₀ : List Blk} {w₀ : World} {fr : List (Nat × Sv)} {H : List Blk} {σ : Nat → Nat} {es : List Nat} {L : List (Nat × PI × Sv)} {ns : List NI} {ct : NI → Bk} {base : Nat} {D : Nat → Prop} {a : Act} {w : World} {bs : Nat → Nat}

/-- a slot that an operation may read now -/
theorem DI.read (di : DI P ρ σ₀ H₀ w₀ N ops fr H σ es L ns ct base D a w bs) (hB : okB ops B = true) (hinj : nodupB ((List.range ops.size).filterMap (dstOf ops)) = true)
    (hfr : ∀ s v, lk fr s = some v → v.lt H.length = true)
    {i : Nat} {o : Oper} (ho : ops[i]? = some o) (hun : ¬ D i) (hrd : ∀ n ∈ needs o, D n) {L1 : List (Nat × PI × Sv)} (hL1 : ∀ y ∈ L1, y ∈ L) (hd : ∀ y ∈ L, dstOf ops y.1 = y.2.1.d) (hnod : (L.map (·.1)).Nodup)
    {frx : List (Nat × Sv)} (hr : ResL P ρ H L1 fr frx) {s : Nat} {u : Sv} (hok : readOk ops B (L1.map (·.1) ++ es) i s = true) (hlk : lk frx s = some u) :
    a.tmps[s]? = some (renS ρ σ u) ∧ u.lt H.length = true := by
  have rd : ∀ j, dstOf ops j = some s → j ≠ i ∧ (if (L1.map (·.1) ++ es).contains j then bt B i j = true else bt B j i = true) := by
    intro j hj
    have hjl : j < ops.size := by
      unfold dstOf at hj
      obtain ⟨o, ho, -⟩ := Option.bind_eq_some_iff.1 hj
      exact (Array.getElem?_eq_some_iff.1 ho).1
    have := List.all_eq_true.1 hok j (List.mem_range.2 hjl)
    rw [hj] at this
    simp only [bne_self_eq_false, Bool.false_or, Bool.and_eq_true, bne_iff_ne, ne_eq] at this
    refine ⟨this.1, ?_⟩
    have h2 := this.2
    split at h2 <;> rename_i hc
    · rw [if_pos hc]; exact h2
    · rw [if_neg hc]; exact h2
  have uniq : ∀ y ∈ L, ∀ z ∈ L, y.2.1.d = some s → z.2.1.d = some s → y = z := by
    intro y hy z hz hyd hzd
    have e : y.1 = z.1 := dst_inj hinj (s := s) (by rw [hd y hy]; exact hyd) (by rw [hd z hz]; exact hzd)
    exact mem_unique hnod hy hz e
  rcases ResL_lk hr hlk with ⟨y, hy, hyd, hall⟩ | ⟨hno, hlk'⟩ | ⟨y, hy, z, hz, hyd, hzd, hne⟩
  · have hdy := hd y (hL1 y hy)
    have hc : (L1.map (·.1) ++ es).contains y.1 = true := by
      rw [List.contains_iff_mem]; exact List.mem_append.2 (.inl (List.mem_map_of_mem hy))
    have := rd y.1 (by rw [hdy]; exact hyd)
    rw [if_pos hc] at this
    have hD := di.clo.ready hB ho hrd y.1 this.2
    rw [← hall y hy hyd rfl]
    exact ⟨di.x y (hL1 y hy) hD s hyd, di.xl y (hL1 y hy) hD⟩
  · refine ⟨di.u s u hlk' ?_, hfr s u hlk'⟩
    intro j hj hje hDj
    have := rd j hj
    by_cases hc : (L1.map (·.1) ++ es).contains j = true
    · rw [List.contains_iff_mem, List.mem_append, List.mem_map] at hc
      obtain ⟨y, hy, rfl⟩ := hc.resolve_right hje
      exact hno y hy (by rw [← hd y (hL1 y hy)]; exact hj)
    · rw [if_neg hc] at this
      have hjl : j < ops.size := by
        unfold dstOf at hj
        obtain ⟨o, ho, -⟩ := Option.bind_eq_some_iff.1 hj
        exact (Array.getElem?_eq_some_iff.1 ho).1
      exact hun (di.clo.wait hB j hjl hDj i this.2)
  · exact (hne (uniq y (hL1 y hy) z (hL1 z hz) hyd hzd)).elim

/-- the small frame of the slots that are read -/
def small (frx : List (Nat × Sv)) : List Nat → List (Nat × Sv)
  | [] => []
  | s :: r => match lk frx s with
    | some v => (s, v) :: small frx r
    | none => small frx r
theorem small_lk {frx : List (Nat × Sv)} : ∀ {l : List Nat} {s : Nat}, lk (small frx l) s = if s ∈ l then lk frx s else none
  | [], s => by simp [small, lk]
  | t :: r, s => by
    simp only [small]
    cases hk : lk frx t with
    | none =>
      simp only
      rw [small_lk]
      by_cases h : s ∈ r
      · simp [h]
      · by_cases hst : s = t
        · subst hst; simp [hk]
        · simp [h, hst]
    | some v =>
      simp only [lk]
      by_cases hst : t = s
      · subst hst; simp [hk]
      · rw [if_neg hst, small_lk]
        simp [Ne.symm hst]

theorem put_get {d : Option Nat} {v : Value} {s : Nat} (h : d ≠ some s) : (a.put d v).tmps[s]? = a.tmps[s]? := by
  cases d with
  | none => rfl
  | some t =>
    have : t ≠ s := fun e => h (by rw [e])
    simp [Act.put, Array.getElem?_setIfInBounds_ne this]
theorem put_get_same {v : Value} {s : Nat} (h : s < a.tmps.size) : (a.put (some s) v).tmps[s]? = some v := by
  simp [Act.put, h]

/-- one operation of the list is done -/
theorem DI.stepX (di : DI P ρ σ₀ H₀ w₀ N ops fr H σ es L ns ct base D a w bs) (hinj : nodupB ((List.range ops.size).filterMap (dstOf ops)) = true)
    {y : Nat × PI × Sv} (hy : y ∈ L) (hdy : dstOf ops y.1 = y.2.1.d) (hnod : (L.map (·.1)).Nodup) {o : Oper} (ho : ops[y.1]? = some o) (hrd : ∀ n ∈ needs o, D n) (hye : y.1 ∉ es) (hN : ∀ t, y.2.1.d = some t → t < N)
    (hdL : ∀ z ∈ L, dstOf ops z.1 = z.2.1.d) (hnd : ∀ q ∈ ns, dstOf ops q.i = some q.d) (hni : ∀ q ∈ ns, q.i ≠ y.1) (hnj : ∀ q ∈ ns, ∀ j x m, q.s = some (j, x, m) → j ≠ y.1)
    {σ' : Nat → Nat} {w' : World} (sp : Sp ρ σ H w σ' H w') (hl : y.2.2.lt H.length = true) :
    DI P ρ σ₀ H₀ w₀ N ops fr H σ es L ns ct base (fun i => D i ∨ i = y.1) (a.put y.2.1.d (renS ρ σ' y.2.2)) w' bs := by
  have hs : ∀ k, k < H.length → σ' k = σ k := sp.same
  have ev' : renS ρ σ' y.2.2 = renS ρ σ y.2.2 := renS_congr hs hl
  have spw : Sp ρ σ₀ H₀ w₀ σ H w' := (di.sp.trans sp).congr fun k hk => (hs k hk).symm
  have oldb : ∀ b, b < w.heap.size → base ≤ b → w'.heap[b]? = w.heap[b]? := by
    intro b hb hbb
    refine sp.k.old b hb fun k B hB _ => ?_
    have hk := (List.getElem?_eq_some_iff.1 hB).1
    have := di.lo k hk
    omega
  refine ⟨?_, ?_, ?_, ?_, spw, ?_, ?_, di.lo, di.bw, Nat.le_trans di.bs_ sp.k.size, by rw [Act.put_size]; exact di.sz, by rw [Act.put_defers']; exact di.df⟩
  · intro i o' ho' hD n hn
    rcases hD with hD | rfl
    · exact .inl (di.clo i o' ho' hD n hn)
    · rw [ho] at ho'; cases ho'
      exact .inl (hrd n hn)
  · intro s v hlk hno
    have hne : y.2.1.d ≠ some s := fun e => hno y.1 (by rw [hdy]; exact e) hye (.inr rfl)
    rw [put_get hne]
    exact di.u s v hlk fun j hj hje hD => hno j hj hje (.inl hD)
  · intro z hz hD t ht
    by_cases hzy : z.1 = y.1
    · have : z = y := mem_unique hnod hz hy hzy
      subst this
      rw [ht, ev']
      exact put_get_same (by rw [di.sz]; exact hN t ht)
    · have hne : y.2.1.d ≠ some t := fun e => hzy (dst_inj hinj (s := t) (by rw [hdL z hz]; exact ht) (by rw [hdy]; exact e))
      rw [put_get hne]
      exact di.x z hz (hD.resolve_right hzy) t ht
  · intro z hz hD
    rcases hD with hD | hD
    · exact di.xl z hz hD
    · have : z = y := mem_unique hnod hz hy hD
      subst this
      exact hl
  · intro q hq hD
    obtain ⟨h1, h2, T, h3⟩ := di.nn q hq (hD.resolve_right (hni q hq))
    have hne : y.2.1.d ≠ some q.d := fun e => hni q hq (dst_inj hinj (hnd q hq) (by rw [hdy]; exact e))
    refine ⟨by rw [put_get hne]; exact h1, h2, T, ?_⟩
    have hlt : bs q.i < w.heap.size := by
      rcases h3 with h3 | ⟨-, h3⟩ <;> exact (Array.getElem?_eq_some_iff.1 h3).1
    rw [oldb _ hlt h2]
    rcases h3 with h3 | ⟨⟨j, x, m, e, hj⟩, h3⟩
    · exact .inl h3
    · exact .inr ⟨⟨j, x, m, e, fun h => h.elim hj (hnj q hq j x m e)⟩, h3⟩
  · intro q hq q' hq' hD hD' hne
    exact di.nd q hq q' hq' (hD.resolve_right (hni q hq)) (hD'.resolve_right (hni q' hq')) hne
end
end Hf
/- The engine, part 13: the whole of such a region. -/
namespace Hf
open Go

section
variable {P : Program} {ρ : Nat → FuncId} {N : Nat} {ops : Array Oper} {B : List Nat}
variable {σ₀ : Nat → Nat} {H₀ : List Blk} {w₀ : World} {fr : List (Nat × Sv)} {H : List Blk} {σ : Nat → Nat} {es : List Nat} {L : List (Nat × PI × Sv)} {ns : List NI} {ct : NI → Bk} {base : Nat} {D : Nat → Prop} {a : Act} {w : World} {bs : Nat → Nat}

/-- a block more, of which the state knows nothing -/
theorem Sp_push (h : HRel ρ σ w H) (o : Obj) : Sp ρ σ H w σ H { w with heap := w.heap.push o } where
  h := {
    at_ := fun k B hB => by
      obtain ⟨T, e⟩ := h.at_ k B hB
      have hlt := h.lt (List.getElem?_eq_some_iff.1 hB).1
      refine ⟨T, ?_⟩
      show (w.heap.push _)[σ k]? = _
      rw [Array.getElem?_push, if_neg (by omega)]
      exact e
    sep := h.sep
    clo := h.clo }
  k := ⟨rfl, rfl, rfl, by simp, fun b hb _ => by
    show (w.heap.push _)[b]? = _
    rw [Array.getElem?_push, if_neg (by omega)]⟩
  len := Nat.le_refl _
  same := fun _ _ => rfl
  rof := fun _ _ _ e e' => by rw [e] at e'; cases e'; rfl
  fresh := fun _ h1 h2 => by omega

/-- a block written, of which the state knows nothing -/
theorem Sp_other (h : HRel ρ σ w H) (b : Nat) (hb : ∀ k, k < H.length → σ k ≠ b) (cs : Array Value) : HRel ρ σ (w.setRow b cs) H where
  at_ := fun k B hB => by
    obtain ⟨T, e⟩ := h.at_ k B hB
    refine ⟨T, ?_⟩
    rw [setRow_other _ _ _ _ (hb k (List.getElem?_eq_some_iff.1 hB).1)]
    exact e
  sep := h.sep
  clo := h.clo

theorem DI.stepN (di : DI P ρ σ₀ H₀ w₀ N ops fr H σ es L ns ct base D a w bs) (hB : okB ops B = true) (hinj : nodupB ((List.range ops.size).filterMap (dstOf ops)) = true)
    {q : NI} (hq : q ∈ ns) {o : Oper} (ho : ops[q.i]? = some o) (hun : ¬ D q.i) (hrd : ∀ n ∈ needs o, D n) (hqe : q.i ∉ es) (hN : q.d < N)
    (hdL : ∀ z ∈ L, dstOf ops z.1 = z.2.1.d) (hnd : ∀ q ∈ ns, dstOf ops q.i = some q.d) (hnL : ∀ z ∈ L, z.1 ≠ q.i) (hnj : ∀ q ∈ ns, ∀ q' ∈ ns, ∀ j x m, q'.s = some (j, x, m) → j ≠ q.i)
    (hnq : ∀ q' ∈ ns, q'.i = q.i → q' = q) (hc0 : q.s = none → ct q = q.z.bk) (hwt : ∀ j x m, q.s = some (j, x, m) → bt B j q.i = true ∧ j < ops.size) (T : TypeId) :
    DI P ρ σ₀ H₀ w₀ N ops fr H σ es L ns ct base (fun i => D i ∨ i = q.i) (a.put (some q.d) (.pointer (some ⟨w.heap.size, 0, none⟩))) { w with heap := w.heap.push (.cells (cellsB ρ σ q.z.bk) T) } (setAt bs q.i w.heap.size) := by
  have hdq := hnd q hq
  have oldb : ∀ b, b < w.heap.size → (w.heap.push (.cells (cellsB ρ σ q.z.bk) T))[b]? = w.heap[b]? := fun b hb => by
    rw [Array.getElem?_push, if_neg (by omega)]
  refine ⟨?_, ?_, ?_, ?_, di.sp.trans (Sp_push di.sp.h _), ?_, ?_, di.lo, di.bw, by simp; exact Nat.le_succ_of_le di.bs_, by rw [Act.put_size]; exact di.sz, by rw [Act.put_defers']; exact di.df⟩
  · intro i o' ho' hD n hn
    rcases hD with hD | rfl
    · exact .inl (di.clo i o' ho' hD n hn)
    · rw [ho] at ho'; cases ho'
      exact .inl (hrd n hn)
  · intro s v hlk hno
    have hne : (some q.d) ≠ some s := fun e => hno q.i (by rw [hdq]; exact e) hqe (.inr rfl)
    rw [put_get hne]
    exact di.u s v hlk fun j hj hje hD => hno j hj hje (.inl hD)
  · intro z hz hD t ht
    have hne : (some q.d) ≠ some t := fun e => hnL z hz (dst_inj hinj (s := t) (by rw [hdL z hz]; exact ht) (by rw [hdq]; exact e))
    rw [put_get hne]
    exact di.x z hz (hD.resolve_right (hnL z hz)) t ht
  · intro z hz hD
    exact di.xl z hz (hD.resolve_right (hnL z hz))
  · intro q' hq' hD
    by_cases hqq : q'.i = q.i
    · obtain rfl := hnq q' hq' hqq
      refine ⟨?_, ?_, T, ?_⟩
      · rw [put_get_same (by rw [di.sz]; exact hN), setAt_same]
      · rw [setAt_same]; exact di.bs_
      · rw [setAt_same]
        have e : ({ w with heap := w.heap.push (.cells (cellsB ρ σ q'.z.bk) T) } : World).heap[w.heap.size]? = some (.cells (cellsB ρ σ q'.z.bk) T (0, 0)) := by
          show (w.heap.push _)[w.heap.size]? = _
          simp
        rw [e]
        cases hs : q'.s with
        | none => rw [hc0 hs]; exact .inl rfl
        | some p =>
          obtain ⟨j, x, m⟩ := p
          refine .inr ⟨⟨j, x, m, rfl, ?_⟩, rfl⟩
          rintro (hDj | hji)
          · obtain ⟨h1, h2⟩ := hwt j x m hs
            exact hun (di.clo.wait hB j h2 hDj _ h1)
          · exact hnj q' hq' q' hq' j x m hs hji
    · obtain ⟨h1, h2, T', h3⟩ := di.nn q' hq' (hD.resolve_right hqq)
      have hne : (some q.d) ≠ some q'.d := fun e => hqq (dst_inj hinj (hnd q' hq') (by rw [hdq]; exact e))
      have hsb : setAt bs q.i w.heap.size q'.i = bs q'.i := by unfold setAt; rw [if_neg hqq]
      rw [hsb]
      have hlt : bs q'.i < w.heap.size := by
        rcases h3 with h3 | ⟨-, h3⟩ <;> exact (Array.getElem?_eq_some_iff.1 h3).1
      refine ⟨by rw [put_get hne]; exact h1, h2, T', ?_⟩
      show (w.heap.push _)[bs q'.i]? = _ ∨ _ ∧ (w.heap.push _)[bs q'.i]? = _
      rw [oldb _ hlt]
      rcases h3 with h3 | ⟨⟨j, x, m, e, hj⟩, h3⟩
      · exact .inl h3
      · exact .inr ⟨⟨j, x, m, e, fun h => h.elim hj (hnj q hq q' hq' j x m e)⟩, h3⟩
  · intro q1 hq1 q2 hq2 hD1 hD2 hne
    have lt : ∀ q' ∈ ns, D q'.i → bs q'.i < w.heap.size := by
      intro q' hq' hD
      obtain ⟨-, -, T', h3⟩ := di.nn q' hq' hD
      rcases h3 with h3 | ⟨-, h3⟩ <;> exact (Array.getElem?_eq_some_iff.1 h3).1
    by_cases h1 : q1.i = q.i <;> by_cases h2 : q2.i = q.i
    · exact (hne (h1.trans h2.symm)).elim
    · have := lt q2 hq2 (hD2.resolve_right h2)
      simp only [setAt, h1, if_true, h2, if_false]
      omega
    · have := lt q1 hq1 (hD1.resolve_right h1)
      simp only [setAt, h1, if_false, h2, if_true]
      omega
    · simp only [setAt, h1, if_false, h2]
      exact di.nd q1 hq1 q2 hq2 (hD1.resolve_right h1) (hD2.resolve_right h2) hne

theorem DI.stepS (di : DI P ρ σ₀ H₀ w₀ N ops fr H σ es L ns ct base D a w bs)
    {q : NI} (hq : q ∈ ns) {j : Nat} {x : Ar} {m : Nat} (hqs : q.s = some (j, x, m)) {o : Oper} (ho : ops[j]? = some o) (hrd : ∀ n ∈ needs o, D n) (hDq : D q.i) (hdj : dstOf ops j = none)
    (hnL : ∀ z ∈ L, z.1 ≠ j) (hnj : ∀ q' ∈ ns, q'.i ≠ j) (hnq : ∀ q' ∈ ns, q'.i = q.i → q' = q) (hsj : ∀ q' ∈ ns, ∀ x m, q'.s = some (j, x, m) → q' = q) :
    DI P ρ σ₀ H₀ w₀ N ops fr H σ es L ns ct base (fun i => D i ∨ i = j) a (w.setRow (bs q.i) (cellsB ρ σ (ct q))) bs := by
  obtain ⟨p1, p2, T, p3⟩ := di.nn q hq hDq
  have hb : ∀ k, k < H.length → σ k ≠ bs q.i := fun k hk => by have := di.lo k hk; omega
  refine ⟨?_, ?_, ?_, ?_, ?_, ?_, ?_, di.lo, di.bw, by rw [setRow_size]; exact di.bs_, di.sz, di.df⟩
  · intro i o' ho' hD n hn
    rcases hD with hD | rfl
    · exact .inl (di.clo i o' ho' hD n hn)
    · rw [ho] at ho'; cases ho'
      exact .inl (hrd n hn)
  · intro s v hlk hno
    exact di.u s v hlk fun j hj hje hD => hno j hj hje (.inl hD)
  · intro z hz hD t ht
    exact di.x z hz (hD.resolve_right (hnL z hz)) t ht
  · intro z hz hD
    exact di.xl z hz (hD.resolve_right (hnL z hz))
  · refine ⟨Sp_other di.sp.h _ hb _, ⟨di.sp.k.os, di.sp.k.tape, di.sp.k.output, by rw [setRow_size]; exact di.sp.k.size, ?_⟩, di.sp.len, di.sp.same, di.sp.rof, di.sp.fresh⟩
    intro b hb' hn
    have := di.bw
    rw [setRow_other _ _ _ _ (by omega)]
    exact di.sp.k.old b hb' hn
  · intro q' hq' hD
    obtain ⟨h1, h2, T', h3⟩ := di.nn q' hq' (hD.resolve_right (hnj q' hq'))
    refine ⟨h1, h2, ?_⟩
    by_cases hqq : q'.i = q.i
    · obtain rfl := hnq q' hq' hqq
      refine ⟨T', .inl ?_⟩
      rcases h3 with h3 | ⟨-, h3⟩ <;> exact setRow_heap w _ _ _ T' _ h3
    · refine ⟨T', ?_⟩
      have hne := di.nd q' hq' q hq (hD.resolve_right (hnj q' hq')) hDq hqq
      rw [setRow_other _ _ _ _ hne]
      rcases h3 with h3 | ⟨⟨j', x', m', e, hj⟩, h3⟩
      · exact .inl h3
      · refine .inr ⟨⟨j', x', m', e, fun h => h.elim hj fun hjj => ?_⟩, h3⟩
        subst hjj
        exact hqq (by rw [hsj q' hq' x' m' e])
  · intro q1 hq1 q2 hq2 hD1 hD2 hne
    exact di.nd q1 hq1 q2 hq2 (hD1.resolve_right (hnj q1 hq1)) (hD2.resolve_right (hnj q2 hq2)) hne

/-! ### the end of the first part -/
/-- the blocks of the new variables, in order -/
def bsl (σ : Nat → Nat) (m : Nat) (bs : Nat → Nat) (ns : List NI) : Nat → Nat := fun k => if k < m then σ k else match ns[k - m]? with
  | some q => bs q.i
  | none => 0

def nfr (m : Nat) : List NI → List (Nat × Sv) → List (Nat × Sv)
  | [], fr => fr
  | q :: r, fr => nfr (m + 1) r ((q.d, .one (.pt m 0)) :: fr)

theorem vN_spec {fr0 : List (Nat × Sv)} {Q : St → Prop} : ∀ {ns : List NI} {fr : List (Nat × Sv)} {H : List Blk}, vN fr0 ns fr H Q →
    ∃ ct : NI → Bk, (∀ q ∈ ns, ∀ K : Bk → Prop, K (ct q) → vcont fr0 q K) ∧ Q ⟨nfr H.length ns fr, H ++ ns.map (fun q => ⟨false, ct q⟩)⟩
  | [], fr, H, h => ⟨fun _ => .rw [], by simp, by simpa [nfr] using (show Q ⟨fr, H⟩ from h)⟩
  | q :: r, fr, H, h => by
    obtain ⟨m, rfl, h⟩ := h
    have wit : ∃ c, (∀ K : Bk → Prop, K c → vcont fr0 q K) ∧ vN fr0 r ((q.d, .one (.pt H.length 0)) :: fr) (H ++ [⟨false, c⟩]) Q := by
      unfold vcont at h ⊢
      split at h
      · exact ⟨_, fun K hK => hK, h⟩
      · split at h
        · split at h
          · exact ⟨_, fun K hK => ⟨h.1, hK⟩, h.2⟩
          · exact h.elim
        · split at h
          · exact h.elim
          · exact ⟨_, fun K hK => ⟨h.1, hK⟩, h.2⟩
        · exact h.elim
    obtain ⟨c, h1, h2⟩ := wit
    obtain ⟨ct, h3, h4⟩ := vN_spec h2
    classical
    refine ⟨fun q' => if q' ∈ r then ct q' else c, ?_, ?_⟩
    · intro q' hq' K hK
      by_cases hr : q' ∈ r
      · simp only [hr, if_true] at hK; exact h3 q' hr K hK
      · simp only [hr, if_false] at hK
        rcases List.mem_cons.1 hq' with rfl | hq'
        · exact h1 K hK
        · exact (hr hq').elim
    · by_cases hr : q ∈ r
      · -- the same entry twice: its content is told twice, and alike
        have e : c = ct q := by
          have a1 := h3 q hr (fun x => x = ct q) rfl
          have a2 := h1 (fun x => x = c) rfl
          unfold vcont at a1 a2
          split at a1
          · rename_i hs; simp only [hs] at a2; exact a2.symm.trans a1
          · rename_i hs; simp only [hs] at a2
            split at a1
            · rename_i he; simp only [he] at a2
              split at a1
              · rename_i hz; simp only [hz] at a2; exact a2.2.symm.trans a1.2
              · exact a1.elim
            · rename_i he; simp only [he] at a2
              split at a1
              · exact a1.elim
              · rename_i hz
                split at a2
                · rename_i hz'; exact (hz _ _ hz').elim
                · exact a2.2.symm.trans a1.2
            · exact a1.elim
        have : (q :: r).map (fun q' => (⟨false, if q' ∈ r then ct q' else c⟩ : Blk)) = (⟨false, c⟩ : Blk) :: r.map (fun q => ⟨false, ct q⟩) := by
          rw [List.map_cons]
          congr 1
          · simp [hr, e]
          · exact List.map_congr_left fun q' hq' => by simp [hq']
        rw [this]
        simpa [nfr, List.append_assoc] using h4
      · have : (q :: r).map (fun q' => (⟨false, if q' ∈ r then ct q' else c⟩ : Blk)) = (⟨false, c⟩ : Blk) :: r.map (fun q => ⟨false, ct q⟩) := by
          rw [List.map_cons]
          congr 1
          · simp [hr]
          · exact List.map_congr_left fun q' hq' => by simp [hq']
        rw [this]
        simpa [nfr, List.append_assoc] using h4

theorem nfr_lk : ∀ {ns : List NI} {m : Nat} {fr : List (Nat × Sv)} {s : Nat} {v : Sv}, lk (nfr m ns fr) s = some v → (∃ k q, ns[k]? = some q ∧ q.d = s ∧ v = .one (.pt (m + k) 0)) ∨ ((∀ q ∈ ns, q.d ≠ s) ∧ lk fr s = some v)
  | [], m, fr, s, v, h => .inr ⟨by simp, h⟩
  | q :: r, m, fr, s, v, h => by
    simp only [nfr] at h
    rcases nfr_lk h with ⟨k, q', e1, e2, e3⟩ | ⟨hno, h⟩
    · exact .inl ⟨k + 1, q', by simpa using e1, e2, by rw [e3]; congr 2; omega⟩
    · simp only [lk] at h
      split at h
      · rename_i e
        cases h
        exact .inl ⟨0, q, rfl, e, rfl⟩
      · rename_i e
        refine .inr ⟨?_, h⟩
        intro q' hq'
        rcases List.mem_cons.1 hq' with rfl | hq'
        · exact e
        · exact hno q' hq'

theorem nodup_ix {l : List NI} {k k' : Nat} {q q' : NI} (h : (l.map (·.i)).Nodup) (h1 : l[k]? = some q) (h2 : l[k']? = some q') (e : q.i = q'.i) : k = k' := by
  induction l generalizing k k' with
  | nil => simp at h1
  | cons x r ih =>
    simp only [List.map_cons, List.nodup_cons] at h
    cases k with
    | zero =>
      cases k' with
      | zero => rfl
      | succ k' =>
        simp only [List.getElem?_cons_zero, Option.some.injEq] at h1
        rw [List.getElem?_cons_succ] at h2
        subst h1
        exact (h.1 (by rw [e]; exact List.mem_map_of_mem (List.mem_of_getElem? h2))).elim
    | succ k =>
      rw [List.getElem?_cons_succ] at h1
      cases k' with
      | zero =>
        simp only [List.getElem?_cons_zero, Option.some.injEq] at h2
        subst h2
        exact (h.1 (by rw [← e]; exact List.mem_map_of_mem (List.mem_of_getElem? h1))).elim
      | succ k' =>
        rw [List.getElem?_cons_succ] at h2
        rw [ih h.2 h1 h2]

theorem DI.finish (di : DI P ρ σ₀ H₀ w₀ N ops fr H σ es L ns ct base D a w bs) {frX : List (Nat × Sv)} (hr : ResL P ρ H L fr frX) (hfr : ∀ s v, lk fr s = some v → v.lt H.length = true)
    (hinj : nodupB ((List.range ops.size).filterMap (dstOf ops)) = true) (hdL : ∀ z ∈ L, dstOf ops z.1 = z.2.1.d) (hnod : (L.map (·.1)).Nodup) (hnd : ∀ q ∈ ns, dstOf ops q.i = some q.d)
    (hall : ∀ z ∈ L, D z.1) (halln : ∀ q ∈ ns, D q.i ∧ ∀ j x m, q.s = some (j, x, m) → D j) (hfs : ∀ j s, D j → j ∉ es → dstOf ops j = some s → (∃ z ∈ L, z.1 = j) ∨ ∃ q ∈ ns, q.i = j)
    (hctl : ∀ q ∈ ns, (ct q).lt H.length = true) (hnn : (ns.map (·.i)).Nodup) :
    Inv ρ σ₀ H₀ w₀ N (bsl σ H.length bs ns) a w ⟨nfr H.length ns frX, H ++ ns.map (fun q => ⟨false, ct q⟩)⟩ := by
  have hold : ∀ k, k < H.length → bsl σ H.length bs ns k = σ k := fun k hk => by simp only [bsl, hk, if_true]
  have hnew : ∀ (k : Nat) (q : NI), ns[k]? = some q → bsl σ H.length bs ns (H.length + k) = bs q.i := fun k q hq => by
    simp only [bsl]
    rw [if_neg (by omega), Nat.add_sub_cancel_left, hq]
  have hblk : ∀ (k : Nat) (q : NI), ns[k]? = some q → ∃ T, w.heap[bs q.i]? = some (.cells (cellsB ρ σ (ct q)) T (0, 0)) ∧ base ≤ bs q.i := by
    intro k q hq
    have hm := List.mem_of_getElem? hq
    obtain ⟨h1, h2, T, h3⟩ := di.nn q hm (halln q hm).1
    refine ⟨T, ?_, h2⟩
    rcases h3 with h3 | ⟨⟨j, x, m, e, hj⟩, -⟩
    · exact h3
    · exact (hj ((halln q hm).2 j x m e)).elim
  have hneq : ∀ (k k' : Nat) (q q' : NI), ns[k]? = some q → ns[k']? = some q' → k ≠ k' → q.i ≠ q'.i := by
    intro k k' q q' h1 h2 hne e
    exact hne (nodup_ix hnn h1 h2 e)
  refine ⟨⟨?_, ?_⟩, ⟨⟨?_, ?_, ?_⟩, di.sp.k, by simp; exact Nat.le_trans di.sp.len (Nat.le_add_right _ _), ?_, ?_, ?_⟩, di.sz, di.df⟩
  · intro s v hv
    simp only at hv
    rcases nfr_lk hv with ⟨k, q, e1, e2, rfl⟩ | ⟨hno, hv⟩
    · have hm := List.mem_of_getElem? e1
      obtain ⟨h1, -⟩ := di.nn q hm (halln q hm).1
      rw [← e2, h1]
      simp only [renS, ren, hnew k q e1]
    · have hclo : v.lt H.length = true ∧ a.tmps[s]? = some (renS ρ σ v) := by
        rcases ResL_lk hr hv with ⟨y, hy, hyd, hal⟩ | ⟨hn, hlk⟩ | ⟨y, hy, z, hz, hyd, hzd, hne⟩
        · rw [← hal y hy hyd rfl]
          exact ⟨di.xl y hy (hall y hy), di.x y hy (hall y hy) s hyd⟩
        · refine ⟨hfr s v hlk, di.u s v hlk ?_⟩
          intro j hj hje hD
          rcases hfs j s hD hje hj with ⟨z, hz, rfl⟩ | ⟨q, hq, rfl⟩
          · exact hn z hz (by rw [← hdL z hz]; exact hj)
          · rw [hnd q hq] at hj
            exact hno q hq (by cases hj; rfl)
        · exact (hne (mem_unique hnod hy hz (dst_inj hinj (s := s) (by rw [hdL y hy]; exact hyd) (by rw [hdL z hz]; exact hzd)))).elim
      rw [renS_congr hold hclo.1]
      exact hclo.2
  · intro s v hv
    simp only at hv
    rcases nfr_lk hv with ⟨k, q, e1, e2, rfl⟩ | ⟨hno, hv⟩
    · have := (List.getElem?_eq_some_iff.1 e1).1
      simp [Sv.lt, At.lt]; omega
    · have hclo : v.lt H.length = true := by
        rcases ResL_lk hr hv with ⟨y, hy, hyd, hal⟩ | ⟨hn, hlk⟩ | ⟨y, hy, z, hz, hyd, hzd, hne⟩
        · rw [← hal y hy hyd rfl]
          exact di.xl y hy (hall y hy)
        · exact hfr s v hlk
        · exact (hne (mem_unique hnod hy hz (dst_inj hinj (s := s) (by rw [hdL y hy]; exact hyd) (by rw [hdL z hz]; exact hzd)))).elim
      exact Sv.lt_mono (by simp) hclo
  · intro k Bx hB
    simp only at hB
    by_cases hk : k < H.length
    · rw [List.getElem?_append_left hk] at hB
      obtain ⟨T, e⟩ := di.sp.h.at_ k Bx hB
      exact ⟨T, by rw [hold k hk, cellsB_congr hold (di.sp.h.clo k Bx hB)]; exact e⟩
    · rw [List.getElem?_append_right (by omega)] at hB
      simp only [List.getElem?_map, Option.map_eq_some_iff] at hB
      obtain ⟨q, h1, rfl⟩ := hB
      obtain ⟨T, e, -⟩ := hblk _ q h1
      have hk' : k = H.length + (k - H.length) := by omega
      refine ⟨T, ?_⟩
      rw [hk', hnew _ q h1, cellsB_congr hold (hctl q (List.mem_of_getElem? h1))]
      exact e
  · intro j k Bx hjk hk hB hro
    simp only [List.length_append, List.length_map] at hk
    simp only at hB
    have hj := (List.getElem?_eq_some_iff.1 hB).1
    simp only [List.length_append, List.length_map] at hj
    by_cases hk1 : k < H.length
    · by_cases hj1 : j < H.length
      · rw [List.getElem?_append_left hj1] at hB
        rw [hold k hk1, hold j hj1]
        exact di.sp.h.sep j k Bx hjk hk1 hB hro
      · obtain ⟨q, hq⟩ : ∃ q, ns[j - H.length]? = some q := ⟨_, List.getElem?_eq_getElem (by omega)⟩
        obtain ⟨T, -, h2⟩ := hblk _ q hq
        have e := hnew _ q hq
        rw [show H.length + (j - H.length) = j by omega] at e
        rw [e, hold k hk1]
        have := di.lo k hk1
        omega
    · obtain ⟨q, hq⟩ : ∃ q, ns[k - H.length]? = some q := ⟨_, List.getElem?_eq_getElem (by omega)⟩
      obtain ⟨T, -, h2⟩ := hblk _ q hq
      have e := hnew _ q hq
      rw [show H.length + (k - H.length) = k by omega] at e
      rw [e]
      by_cases hj1 : j < H.length
      · rw [hold j hj1]
        have := di.lo j hj1
        omega
      · obtain ⟨q', hq'⟩ : ∃ q, ns[j - H.length]? = some q := ⟨_, List.getElem?_eq_getElem (by omega)⟩
        have e' := hnew _ q' hq'
        rw [show H.length + (j - H.length) = j by omega] at e'
        rw [e']
        have hne := hneq _ _ q' q hq' hq (by omega)
        have hm := List.mem_of_getElem? hq
        have hm' := List.mem_of_getElem? hq'
        exact di.nd q' hm' q hm (halln q' hm').1 (halln q hm).1 hne
  · intro k Bx hB
    simp only at hB
    by_cases hk : k < H.length
    · rw [List.getElem?_append_left hk] at hB
      exact Bk.lt_mono (by simp) (di.sp.h.clo k Bx hB)
    · rw [List.getElem?_append_right (by omega)] at hB
      simp only [List.getElem?_map, Option.map_eq_some_iff] at hB
      obtain ⟨q, h1, rfl⟩ := hB
      exact Bk.lt_mono (by simp) (hctl q (List.mem_of_getElem? h1))
  · intro k hk
    rw [hold k (Nat.lt_of_lt_of_le hk di.sp.len)]
    exact di.sp.same k hk
  · intro k Bx Bx' e e'
    simp only at e'
    have hk := Nat.lt_of_lt_of_le (List.getElem?_eq_some_iff.1 e).1 di.sp.len
    rw [List.getElem?_append_left hk] at e'
    exact di.sp.rof k Bx Bx' e e'
  · intro k h1 h2
    simp only [List.length_append, List.length_map] at h2
    by_cases hk : k < H.length
    · rw [hold k hk]; exact di.sp.fresh k h1 hk
    · obtain ⟨q, hq⟩ : ∃ q, ns[k - H.length]? = some q := ⟨_, List.getElem?_eq_getElem (by omega)⟩
      obtain ⟨T, -, h2⟩ := hblk _ q hq
      have e := hnew _ q hq
      rw [show H.length + (k - H.length) = k by omega] at e
      rw [e]
      have := di.bw
      omega
end
end Hf
/- The engine, part 14: the theorem on such a region. -/
namespace Hf
open Go

section
variable {P : Program} {ρ : Nat → FuncId} {N : Nat} {ops : Array Oper} {B : List Nat}
variable {σ₀ : Nat → Nat} {H₀ : List Blk} {w₀ : World}

def und (ops : Array Oper) (l : Array Bool) : Nat := ((List.range ops.size).filter fun i => !l.getD i false).length
def Dn (l : Array Bool) : Nat → Prop := fun i => l.getD i false = true

theorem Dn_set {l : Array Bool} {i : Nat} (hi : i < l.size) : Dn (l.setIfInBounds i true) = fun k => Dn l k ∨ k = i := by
  funext k
  apply propext
  unfold Dn
  by_cases h : i = k
  · subst h; simp [hi]
  · rw [getD_set_ne false h]
    constructor
    · exact .inl
    · rintro (h' | h')
      · exact h'
      · exact (h h'.symm).elim

theorem und_set {l : Array Bool} {i : Nat} (hi : i < ops.size) (hl : l.size = ops.size) (hu : ¬ Dn l i) : und ops (l.setIfInBounds i true) < und ops l := by
  unfold und
  have hsub : ∀ x ∈ (List.range ops.size).filter (fun k => !(l.setIfInBounds i true).getD k false), x ∈ ((List.range ops.size).filter fun k => !l.getD k false) := by
    intro x hx
    rw [List.mem_filter] at hx ⊢
    refine ⟨hx.1, ?_⟩
    have h2 : ¬ Dn (l.setIfInBounds i true) x := by unfold Dn; simpa using hx.2
    rw [Dn_set (by omega)] at h2
    have : ¬ Dn l x := fun h => h2 (.inl h)
    simpa [Dn] using this
  have hlt : ((List.range ops.size).filter (fun k => !(l.setIfInBounds i true).getD k false)) = ((List.range ops.size).filter fun k => !l.getD k false).filter (fun k => decide (k ≠ i)) := by
    rw [List.filter_filter]
    apply List.filter_congr
    intro x hx
    by_cases h : x = i
    · subst h
      have : Dn (l.setIfInBounds x true) x := by rw [Dn_set (by omega)]; exact .inr rfl
      unfold Dn at this
      simp only [this]; simp
    · rw [getD_set_ne false (Ne.symm h)]; simp [h]
  rw [hlt]
  have hmem : i ∈ (List.range ops.size).filter (fun k => !l.getD k false) := by
    rw [List.mem_filter, List.mem_range]
    exact ⟨hi, by simpa [Dn] using hu⟩
  have : ∀ (m : List Nat), i ∈ m → (m.filter (fun k => decide (k ≠ i))).length < m.length := by
    intro m
    induction m with
    | nil => intro h; cases h
    | cons x r ih =>
      intro h
      by_cases hx : x = i
      · subst hx
        have := List.length_filter_le (fun k => decide (k ≠ x)) r
        simp only [List.filter_cons, ne_eq, not_true_eq_false, decide_false, Bool.false_eq_true, if_false, List.length_cons]
        simp only [ne_eq] at this
        omega
      · have h' : i ∈ r := by
          rcases List.mem_cons.1 h with e | h
          · exact (hx e.symm).elim
          · exact h
        have := ih h'
        simp only [List.filter_cons, ne_eq, hx, not_false_eq_true, decide_true, if_true, List.length_cons]
        simp only [ne_eq] at this
        omega
  exact this _ hmem

theorem und_pos {l : Array Bool} {i : Nat} (hi : i < ops.size) (hu : ¬ Dn l i) : 0 < und ops l := by
  unfold und
  apply List.length_pos_of_mem (a := i)
  rw [List.mem_filter, List.mem_range]
  exact ⟨hi, by simpa [Dn] using hu⟩

theorem ready_ex (hB : okB ops B = true) {l : Array Bool} (hl : l.size = ops.size) {i : Nat} (hi : i < ops.size) (hu : ¬ Dn l i) : Region.ready .any ops l ≠ [] := by
  induction i using Nat.strongRecOn with
  | _ i ih =>
    by_cases h : ∀ n ∈ needs ops[i], Dn l n
    · have : i ∈ Region.ready .any ops l := by
        rw [mem_ready]
        refine ⟨?_, ops[i], Array.getElem?_eq_getElem hi, ?_⟩
        · unfold Dn at hu
          have hil : i < l.size := by omega
          simp only [Array.getD, hil, dif_pos] at hu ⊢
          simpa using hu
        · intro e he hb
          refine h e.on ?_
          unfold needs
          rw [List.mem_map]
          exact ⟨e, List.mem_filter.2 ⟨Array.mem_toList_iff.2 he, hb⟩, rfl⟩
      intro e
      rw [e] at this
      cases this
    · simp only [Classical.not_forall] at h
      obtain ⟨n, hn, hun⟩ := h
      obtain ⟨h1, -⟩ := okB_spec hB (Array.getElem?_eq_getElem hi)
      have := h1 n hn
      exact ih n this (by omega) hun

theorem ready_spec {l : Array Bool} {i : Nat} (h : i ∈ Region.ready .any ops l) : ¬ Dn l i ∧ i < l.size ∧ ∃ o, ops[i]? = some o ∧ ∀ n ∈ needs o, Dn l n := by
  rw [mem_ready] at h
  obtain ⟨h1, o, ho, h2⟩ := h
  have hil : i < l.size := by
    rcases Nat.lt_or_ge i l.size with h | h
    · exact h
    · simp [Array.getElem?_eq_none h] at h1
  refine ⟨?_, hil, o, ho, ?_⟩
  · unfold Dn
    have e : ∀ b, l.getD i b = l[i] := fun b => by simp [Array.getD_eq_getD_getElem?, hil]
    rw [e] at h1 ⊢
    simp [h1]
  · intro n hn
    unfold needs at hn
    rw [List.mem_map] at hn
    obtain ⟨e, he, rfl⟩ := hn
    rw [List.mem_filter] at he
    exact h2 e (Array.mem_toList_iff.1 he.1) he.2

/-! ### reading the check -/
theorem chkF_at : ∀ {fs : List (Nat × PI)} {bf : List Nat} {p : Nat × PI}, chkF P ρ N ops B bf fs = true → p ∈ fs → (∃ o, ops[p.1]? = some o ∧ chkI P ρ N ops o p.2 = true) ∧ ∀ j ∈ bf, bt B p.1 j = true
  | (i, q) :: r, bf, p, h, hp => by
    simp only [chkF, Bool.and_eq_true, List.all_eq_true] at h
    rcases List.mem_cons.1 hp with rfl | hp
    · refine ⟨?_, h.1.2⟩
      have h1 := h.1.1
      split at h1
      · rename_i o ho; exact ⟨o, ho, h1⟩
      · cases h1
    · obtain ⟨h1, h2⟩ := chkF_at h.2 hp
      exact ⟨h1, fun j hj => h2 j (by simp [hj])⟩
  | [], _, _, _, hp => by cases hp

theorem readOk_congr {bf bf' : List Nat} {x s : Nat} (h : ∀ j, bf.contains j = bf'.contains j) : readOk ops B bf x s = readOk ops B bf' x s := by
  unfold readOk
  congr 1
  funext j
  rw [h]

theorem chkX_at : ∀ {X1 : List (Nat × PI)} {bf : List Nat} {p : Nat × PI} {X2 : List (Nat × PI)}, chkX P ρ N ops B bf (X1 ++ p :: X2) = true →
    (∃ o, ops[p.1]? = some o ∧ chkI P ρ N ops o p.2 = true) ∧ ∀ s ∈ p.2.op.sl ++ guardSl p.2.g, readOk ops B (bf ++ X1.map (·.1)) p.1 s = true
  | [], bf, (i, q), X2, h => by
    simp only [List.nil_append, chkX, Bool.and_eq_true, List.all_eq_true] at h
    refine ⟨?_, by simpa using h.1.2⟩
    have h1 := h.1.1
    split at h1
    · rename_i o ho; exact ⟨o, ho, h1⟩
    · cases h1
  | (k, q) :: X1, bf, p, X2, h => by
    simp only [List.cons_append, chkX, Bool.and_eq_true] at h
    obtain ⟨h1, h2⟩ := chkX_at h.2
    refine ⟨h1, fun s hs => ?_⟩
    rw [← h2 s hs]
    apply readOk_congr
    intro j
    rw [Bool.eq_iff_iff]
    simp only [List.contains_iff_mem, List.mem_append, List.map_cons, List.mem_cons]
    constructor
    · rintro (h | h | h)
      · exact .inl (.inr h)
      · exact .inl (.inl h)
      · exact .inr h
    · rintro ((h | h) | h)
      · exact .inr (.inl h)
      · exact .inl h
      · exact .inr (.inr h)

/-! ### the second part: in order -/
theorem wpOp_of {i : Nat} {o : Oper} {K : Act → World → Prop} {Q : Exit → Act → World → Prop} {a : Act} {w : World} (ho : ops[i]? = some o)
    (h : if Region.wanted o (yielded ops a.tmps) = true then o.wp P a w K Q else K (a.put o.dst undef) w) : wpOp P ops Q i K a w := by
  unfold wpOp
  simp only [ho]
  split at h <;> rename_i hw
  · rw [if_pos hw]; exact .inl h
  · rw [if_neg hw]; exact h

/-- one checked operation, with its guard, from a state -/
theorem one_step {o : Oper} {p : PI} {σ : Nat → Nat} {w : World} {a : Act} {st : St} {R : St → Prop} {K : Act → World → Prop} {Q : Exit → Act → World → Prop} (hfn : ∀ f, fnOk P (ρ f) = true)
    (hc : chkI P ρ N ops o p = true) (hi : Inv ρ σ₀ H₀ w₀ N σ a w st) (hv : vreg P ρ [p] st R) (hn : ∀ σ' a' w' st', R st' → Inv ρ σ₀ H₀ w₀ N σ' a' w' st' → K a' w') :
    if Region.wanted o (yielded ops a.tmps) = true then o.wp P a w K Q else K (a.put o.dst undef) w := by
  simp only [chkI, Bool.and_eq_true] at hc
  obtain ⟨⟨h1, h2⟩, h3⟩ := hc
  obtain ⟨hd, hdN⟩ := chkDst_spec h1
  simp only [vreg_c, vreg_n] at hv
  unfold chkGuard at h2
  split at h2
  · rename_i g1 g2
    rw [if_pos (by simp [Region.wanted, g1])]
    rw [g2] at hv
    refine op_sound hfn h3 hi.f hi.s.h hv ?_
    intro v H' σ' w' hK sp hl
    rw [hd]
    exact hn _ _ _ _ hK (hi.step hi.f sp hl (fun t ht => hdN t (by rw [hd]; exact ht)))
  · rename_i j b s b' g1 g2
    simp only [Bool.and_eq_true, beq_iff_eq] at h2
    obtain ⟨rfl, h2⟩ := h2
    rw [g2] at hv
    simp only at hv
    split at hv
    · rename_i g hg
      replace hv := brB_elim hv
      unfold gdo at hv
      have ht := hi.f.val s _ hg
      have hy : yielded ops a.tmps j = some g := by
        unfold yielded
        rw [h2]
        simp [ht, renS, ren]
      have hfr : FRel ρ σ a.tmps ((s, .one (.b g)) :: st.fr) st.hp.length := by
        refine ⟨?_, ?_⟩
        · intro s' u hu
          rw [lk_dup hg] at hu
          exact hi.f.val s' u hu
        · intro s' u hu
          rw [lk_dup hg] at hu
          exact hi.f.clo s' u hu
      split at hv
      · rename_i hgb
        simp only [beq_iff_eq] at hgb; subst hgb
        rw [if_pos (by simp [Region.wanted, g1, hy])]
        refine op_sound hfn h3 hfr hi.s.h hv ?_
        intro v H' σ' w' hK sp hl
        rw [hd]
        exact hn _ _ _ _ hK (hi.step hfr sp hl (fun t ht => hdN t (by rw [hd]; exact ht)))
      · rename_i hgb
        have hgb' : g ≠ b := by simpa using hgb
        rw [if_neg (by simp [Region.wanted, g1, hy, hgb'])]
        rw [hd]
        exact hn _ _ _ _ hv (hi.step (v := .tup []) hfr (Sp.refl hi.s.h) rfl (fun t ht => hdN t (by rw [hd]; exact ht)))
    · rename_i l hg
      have ht := hi.f.val s _ hg
      have hy : yielded ops a.tmps j = none := by
        unfold yielded
        rw [h2]
        simp [ht, renS]
      rw [if_neg (by simp [Region.wanted, g1, hy])]
      rw [hd]
      exact hn _ _ _ _ hv (hi.step (v := .tup []) hi.f (Sp.refl hi.s.h) rfl (fun t ht => hdN t (by rw [hd]; exact ht)))
    · exact hv.elim
  · cases h2

theorem vreg_cons {p : PI} {r : List PI} {st : St} {Q : St → Prop} (h : vreg P ρ (p :: r) st Q) : vreg P ρ [p] st fun st' => vreg P ρ r st' Q := by
  simp only [vreg_c, vreg_n] at h ⊢
  exact h

theorem phase2 {Q : Exit → Act → World → Prop} {Qp : St → Prop} (hfn : ∀ f, fnOk P (ρ f) = true) (hB : okB ops B = true) (hq : ∀ st' σ' a' w', Qp st' → Inv ρ σ₀ H₀ w₀ N σ' a' w' st' → Q .normal a' w') :
    ∀ (fs : List (Nat × PI)) (bf : List Nat) (fuel : Nat) (l : Array Bool) (a : Act) (w : World) (σ : Nat → Nat) (st : St), chkF P ρ N ops B bf fs = true → l.size = ops.size → Closed ops (Dn l) →
      (∀ k, k < ops.size → Dn l k ∨ k ∈ fs.map (·.1)) → (∀ k ∈ fs.map (·.1), ¬ Dn l k) → (fs.map (·.1)).Nodup → und ops l ≤ fuel → Inv ρ σ₀ H₀ w₀ N σ a w st → vreg P ρ (fs.map (·.2)) st Qp → wpAny P .any ops Q fuel l a w
  | [], bf, fuel, l, a, w, σ, st, _, _, _, hall, _, _, _, hi, hv => by
    have hr : Region.ready .any ops l = [] := by
      apply List.eq_nil_iff_forall_not_mem.2
      intro i hi
      obtain ⟨h1, h2, o, ho, -⟩ := ready_spec hi
      have := (Array.getElem?_eq_some_iff.1 ho).1
      exact h1 ((hall i this).resolve_right (by simp))
    exact wpAny_done hr (hq st σ a w (by rw [List.map_nil, vreg_n] at hv; exact hv) hi) fuel
  | (i, p) :: r, bf, fuel, l, a, w, σ, st, hc, hl, hclo, hall, hun, hnd, hf, hi, hv => by
    have hu := hun i (by simp)
    obtain ⟨⟨oi, hoi, hci⟩, -⟩ := chkF_at hc (p := (i, p)) (by simp)
    have hilt : i < ops.size := (Array.getElem?_eq_some_iff.1 hoi).1
    have hpos := und_pos hilt hu
    obtain ⟨fuel, rfl⟩ : ∃ f', fuel = f' + 1 := ⟨fuel - 1, by omega⟩
    refine ⟨fun h => (ready_ex hB hl hilt hu h).elim, fun k hk => ?_⟩
    obtain ⟨h1, h2, o, ho, h3⟩ := ready_spec hk
    have hklt : k < ops.size := (Array.getElem?_eq_some_iff.1 ho).1
    simp only [chkF, Bool.and_eq_true] at hc
    have hki : k = i := by
      have hm := (hall k hklt).resolve_left h1
      simp only [List.map_cons, List.mem_cons] at hm
      rcases hm with e | hm
      · exact e
      · exfalso
        rw [List.mem_map] at hm
        obtain ⟨q, hq, rfl⟩ := hm
        obtain ⟨-, h5⟩ := chkF_at hc.2 hq
        exact hu (hclo.ready hB ho h3 i (h5 i (by simp)))
    subst hki
    rw [hoi] at ho; cases ho
    simp only [List.map_cons, List.nodup_cons] at hnd
    refine wpOp_of hoi (one_step hfn hci hi (vreg_cons hv) ?_)
    intro σ' a' w' st' hR hi'
    have hset := Dn_set h2
    refine phase2 hfn hB hq r (k :: bf) fuel (l.setIfInBounds k true) a' w' σ' st' hc.2 (by simpa using hl) ?_ ?_ ?_ hnd.2 ?_ hi' hR
    · rw [hset]
      intro x ox hox hx n hn
      rcases hx with hx | rfl
      · exact .inl (hclo x ox hox hx n hn)
      · rw [hoi] at hox; cases hox
        exact .inl (h3 n hn)
    · rw [hset]
      intro x hx
      rcases hall x hx with h | h
      · exact .inl (.inl h)
      · simp only [List.map_cons, List.mem_cons] at h
        rcases h with h | h
        · exact .inl (.inr h)
        · exact .inr h
    · rw [hset]
      intro x hx
      rintro (h | h)
      · exact hun x (by simp only [List.map_cons, List.mem_cons]; exact .inr hx) h
      · subst h; exact hnd.1 hx
    · have := und_set hklt hl h1
      omega

/-! ### the theorem -/
theorem chkE_at : ∀ {es : List (Nat × PI)} {bf : List Nat} {p : Nat × PI}, chkE P ρ N ops B bf es = true → p ∈ es → ∃ o, ops[p.1]? = some o ∧ chkI P ρ N ops o p.2 = true
  | (i, q) :: r, bf, p, h, hp => by
    simp only [chkE, Bool.and_eq_true, List.all_eq_true] at h
    rcases List.mem_cons.1 hp with rfl | hp
    · have h1 := h.1.1
      split at h1
      · rename_i o ho; exact ⟨o, ho, h1⟩
      · cases h1
    · exact chkE_at h.2 hp
  | [], _, _, _, hp => by cases hp

/-- the first operations, of which each is waited for by all others -/
theorem phase0 {Q : Exit → Act → World → Prop} {Qp : St → Prop} (hfn : ∀ f, fnOk P (ρ f) = true) (hB : okB ops B = true) {all : List Nat}
    (hq : ∀ st' σ' a' w' l' fuel', Qp st' → Inv ρ σ₀ H₀ w₀ N σ' a' w' st' → l'.size = ops.size → Closed ops (Dn l') → (∀ k, Dn l' k ↔ k ∈ all) → und ops l' ≤ fuel' → wpAny P .any ops Q fuel' l' a' w') :
    ∀ (es : List (Nat × PI)) (bf : List Nat) (fuel : Nat) (l : Array Bool) (a : Act) (w : World) (σ : Nat → Nat) (st : St), chkE P ρ N ops B bf es = true → l.size = ops.size → Closed ops (Dn l) →
      (∀ k, Dn l k ↔ k ∈ bf) → (∀ k, k ∈ all ↔ k ∈ bf ∨ k ∈ es.map (·.1)) → (∀ k ∈ es.map (·.1), k ∉ bf) → (es.map (·.1)).Nodup → und ops l ≤ fuel → Inv ρ σ₀ H₀ w₀ N σ a w st → vreg P ρ (es.map (·.2)) st Qp → wpAny P .any ops Q fuel l a w
  | [], bf, fuel, l, a, w, σ, st, _, hl, hclo, hbf, hall, _, _, hu, hi, hv =>
    hq st σ a w l fuel (by rw [List.map_nil, vreg_n] at hv; exact hv) hi hl hclo (fun k => by rw [hbf, hall]; simp) hu
  | (i, p) :: r, bf, fuel, l, a, w, σ, st, hc, hl, hclo, hbf, hall, hdis, hnd, hf, hi, hv => by
    have hu : ¬ Dn l i := fun h => hdis i (by simp) ((hbf i).1 h)
    obtain ⟨oi, hoi, hci⟩ := chkE_at hc (p := (i, p)) (by simp)
    have hilt : i < ops.size := (Array.getElem?_eq_some_iff.1 hoi).1
    have hpos := und_pos hilt hu
    obtain ⟨fuel, rfl⟩ : ∃ f', fuel = f' + 1 := ⟨fuel - 1, by omega⟩
    refine ⟨fun h => (ready_ex hB hl hilt hu h).elim, fun k hk => ?_⟩
    obtain ⟨h1, h2, o, ho, h3⟩ := ready_spec hk
    have hklt : k < ops.size := (Array.getElem?_eq_some_iff.1 ho).1
    simp only [chkE, Bool.and_eq_true, List.all_eq_true] at hc
    have hki : k = i := by
      have hm := hc.1.2 k (List.mem_range.2 hklt)
      simp only [Bool.or_eq_true, beq_iff_eq] at hm
      rcases hm with (hm | hm) | hm
      · rw [List.contains_iff_mem] at hm
        exact (h1 ((hbf k).2 hm)).elim
      · exact hm
      · exact (hu (hclo.ready hB ho h3 i hm)).elim
    subst hki
    rw [hoi] at ho; cases ho
    simp only [List.map_cons, List.nodup_cons] at hnd
    refine wpOp_of hoi (one_step hfn hci hi (vreg_cons hv) ?_)
    intro σ' a' w' st' hR hi'
    have hset := Dn_set h2
    refine phase0 hfn hB hq r (k :: bf) fuel (l.setIfInBounds k true) a' w' σ' st' hc.2 (by simpa using hl) ?_ ?_ ?_ ?_ hnd.2 ?_ hi' hR
    · rw [hset]
      intro x ox hox hx n hn
      rcases hx with hx | rfl
      · exact .inl (hclo x ox hox hx n hn)
      · rw [hoi] at hox; cases hox
        exact .inl (h3 n hn)
    · rw [hset]
      intro x
      show (Dn l x ∨ x = k) ↔ _
      rw [List.mem_cons, hbf]
      exact Or.comm
    · intro x
      rw [hall, List.map_cons, List.mem_cons, List.mem_cons]
      constructor
      · rintro (h | h | h)
        · exact .inl (.inr h)
        · exact .inl (.inl h)
        · exact .inr h
      · rintro ((h | h) | h)
        · exact .inr (.inl h)
        · exact .inl h
        · exact .inr (.inr h)
    · intro x hx hxb
      rcases List.mem_cons.1 hxb with rfl | hxb
      · exact hnd.1 hx
      · exact hdis x (by simp only [List.map_cons, List.mem_cons]; exact .inr hx) hxb
    · have := und_set hklt hl h1
      omega

theorem drw_sound {id : Nat} {Q : Exit → Act → World → Prop} {Qp : St → Prop} {es xs : List (Nat × PI)} {ns : List NI} {fs : List (Nat × PI)} {σ : Nat → Nat} {w : World} {a : Act} {st : St}
    (hfn : ∀ f, fnOk P (ρ f) = true) (hm : P.follows .mixedOrders = true) (hc : chkDrw P ρ N ops es xs ns fs B = true) (hi : Inv ρ σ₀ H₀ w₀ N σ a w st) (hv : vdrw P ρ es xs ns fs st Qp)
    (hq : ∀ st' σ' a' w', Qp st' → Inv ρ σ₀ H₀ w₀ N σ' a' w' st' → Q .normal a' w') : (Code.region id ops true).wp P Q a w := by
  simp only [chkDrw, Bool.and_eq_true, List.all_eq_true] at hc
  obtain ⟨⟨⟨⟨⟨⟨⟨hB, hnodB⟩, hcov⟩, hinj⟩, hX⟩, hN⟩, hF⟩, hE⟩ := hc
  have hnod0 := nodupB_spec hnodB
  have nodE : (es.map (·.1)).Nodup := (List.nodup_append.1 hnod0).1
  have disE := (List.nodup_append.1 hnod0).2.2
  have hnod := (List.nodup_append.1 hnod0).2.1
  refine wp_region_any hm ?_
  have hun0 : ∀ k, ¬ Dn (Array.replicate ops.size false) k := by
    intro k
    unfold Dn
    by_cases h : k < ops.size <;> simp [h]
  have hi1 : Inv ρ σ₀ H₀ w₀ N σ a { w with drawn := w.drawn + 1 } st :=
    ⟨hi.f, ⟨⟨hi.s.h.at_, hi.s.h.sep, hi.s.h.clo⟩, ⟨hi.s.k.os, hi.s.k.tape, hi.s.k.output, hi.s.k.size, hi.s.k.old⟩, hi.s.len, hi.s.same, hi.s.rof, hi.s.fresh⟩, hi.sz, hi.df⟩
  refine phase0 hfn hB (Qp := fun st' => vdrx P ρ xs ns fs st' Qp) (all := es.map (·.1)) ?_ es [] ops.size (Array.replicate ops.size false) a { w with drawn := w.drawn + 1 } σ st hE (by simp) (fun i o ho hD => (hun0 i hD).elim) (fun k => ⟨fun h => (hun0 k h).elim, fun h => by cases h⟩) (fun k => by simp) (fun k _ h => by cases h) nodE ?_ hi1 (vregp_eq.mp hv)
  rotate_left
  · unfold und
    have := List.length_filter_le (fun i => !(Array.replicate ops.size false).getD i false) (List.range ops.size)
    simpa using this
  clear hv hi hi1 hun0
  rintro ⟨frs, hps⟩ σ a w l0 fuel0 hv hi hl0 hclo0 hD0 hu0
  generalize hst : (St.mk frs hps) = st at *
  obtain ⟨rfl, rfl⟩ : frs = st.fr ∧ hps = st.hp := by subst hst; exact ⟨rfl, rfl⟩
  clear hst
  obtain ⟨L, frX, hL, hres, hvN⟩ := vX_res hv
  obtain ⟨ct, hct, hv2⟩ := vN_spec hvN
  have hLi : xs.map (·.1) = L.map (·.1) := by rw [← hL, List.map_map]; rfl
  rw [hLi] at hnod hcov hN hF disE
  have nodL : (L.map (·.1)).Nodup := (List.nodup_append.1 (List.nodup_append.1 hnod).1).1
  have nodR := (List.nodup_append.1 (List.nodup_append.1 hnod).1).2.1
  have nodN : (ns.map (·.i)).Nodup := (List.nodup_append.1 nodR).1
  have nodS : (storeIx ns).Nodup := (List.nodup_append.1 nodR).2.1
  have nodF : (fs.map (·.1)).Nodup := (List.nodup_append.1 hnod).2.1
  have disLR := (List.nodup_append.1 (List.nodup_append.1 hnod).1).2.2
  have disNS := (List.nodup_append.1 nodR).2.2
  have disF := (List.nodup_append.1 hnod).2.2
  -- the list's entries
  have hLat : ∀ x ∈ L, ∃ o, ops[x.1]? = some o ∧ chkI P ρ N ops o x.2.1 = true := by
    intro x hx
    obtain ⟨L1, L2, rfl⟩ := List.append_of_mem hx
    have : xs = L1.map (fun x => (x.1, x.2.1)) ++ (x.1, x.2.1) :: L2.map (fun x => (x.1, x.2.1)) := by rw [← hL]; simp
    rw [this] at hX
    exact (chkX_at hX).1
  have hdL : ∀ z ∈ L, dstOf ops z.1 = z.2.1.d := by
    intro z hz
    obtain ⟨o, ho, hci⟩ := hLat z hz
    simp only [chkI, Bool.and_eq_true] at hci
    have := (chkDst_spec hci.1.1).1
    simp [dstOf, ho, this]
  have hNq : ∀ q ∈ ns, ∃ o, ops[q.i]? = some o ∧ o.dst = some q.d ∧ q.d < N ∧ o.guard = none ∧ chkOp P ρ o.op (.alo q.z) = true := by
    intro q hq
    have := hN q hq
    simp only [chkN, Bool.and_eq_true] at this
    have h1 := this.1
    split at h1
    · rename_i o ho
      simp only [Bool.and_eq_true, beq_iff_eq, decide_eq_true_eq, Option.isNone_iff_eq_none] at h1
      exact ⟨o, ho, h1.1.1.1, h1.1.1.2, h1.1.2, h1.2⟩
    · cases h1
  have hnd : ∀ q ∈ ns, dstOf ops q.i = some q.d := by
    intro q hq
    obtain ⟨o, ho, h1, -⟩ := hNq q hq
    simp [dstOf, ho, h1]
  have hSq : ∀ q ∈ ns, ∀ j x m, q.s = some (j, x, m) → bt B j q.i = true ∧ q.z.size = m ∧ (∀ s ∈ x.sl, readOk ops B (L.map (·.1) ++ es.map (·.1)) j s = true) ∧
      ∃ o, ops[j]? = some o ∧ o.dst = none ∧ o.guard = none ∧ ∃ t v, o.op = .store t (.tmp q.d) v ∧ sizeT P t = some m ∧ chkAr ρ v x = true := by
    intro q hq j x m hs
    have := hN q hq
    simp only [chkN, Bool.and_eq_true] at this
    have h1 := this.2
    rw [hs] at h1
    simp only [Bool.and_eq_true, beq_iff_eq, List.all_eq_true] at h1
    obtain ⟨⟨⟨h1, h2⟩, h3⟩, h4⟩ := h1
    refine ⟨h1, h2, h3, ?_⟩
    split at h4
    · rename_i o ho
      simp only [Bool.and_eq_true, Option.isNone_iff_eq_none] at h4
      obtain ⟨⟨h5, h6⟩, h7⟩ := h4
      refine ⟨o, ho, h5, h6, ?_⟩
      split at h7
      · rename_i t d v hop
        simp only [Bool.and_eq_true, beq_iff_eq] at h7
        obtain ⟨⟨rfl, h8⟩, h9⟩ := h7
        exact ⟨t, v, hop, h8, h9⟩
      · cases h7
    · cases h4
  have memS : ∀ q ∈ ns, ∀ j x m, q.s = some (j, x, m) → j ∈ storeIx ns := by
    intro q hq j x m hs
    unfold storeIx
    rw [List.mem_filterMap]
    exact ⟨q, hq, by rw [hs]; rfl⟩
  have hnLN : ∀ z ∈ L, ∀ q ∈ ns, z.1 ≠ q.i := fun z hz q hq e =>
    disLR z.1 (List.mem_map_of_mem hz) q.i (List.mem_append.2 (.inl (List.mem_map_of_mem hq))) e
  have hnLS : ∀ z ∈ L, ∀ q ∈ ns, ∀ j x m, q.s = some (j, x, m) → z.1 ≠ j := fun z hz q hq j x m hs e =>
    disLR z.1 (List.mem_map_of_mem hz) j (List.mem_append.2 (.inr (memS q hq j x m hs))) e
  have hnNS : ∀ q ∈ ns, ∀ q' ∈ ns, ∀ j x m, q'.s = some (j, x, m) → q.i ≠ j := fun q hq q' hq' j x m hs e =>
    disNS q.i (List.mem_map_of_mem hq) j (memS q' hq' j x m hs) e
  have hnq : ∀ q ∈ ns, ∀ q' ∈ ns, q'.i = q.i → q' = q := by
    intro q hq q' hq' e
    obtain ⟨k, hk⟩ := List.getElem?_of_mem hq
    obtain ⟨k', hk'⟩ := List.getElem?_of_mem hq'
    have := nodup_ix nodN hk' hk e
    subst this
    rw [hk] at hk'; cases hk'; rfl
  have hsj : ∀ q ∈ ns, ∀ q' ∈ ns, ∀ j x m x' m', q.s = some (j, x, m) → q'.s = some (j, x', m') → q' = q := by
    have key : ∀ (l : List NI), (storeIx l).Nodup → ∀ q ∈ l, ∀ q' ∈ l, ∀ j x m x' m', q.s = some (j, x, m) → q'.s = some (j, x', m') → q' = q := by
      intro l
      induction l with
      | nil => intro _ q hq; cases hq
      | cons y r ih =>
        intro hnd q hq q' hq' j x m x' m' h1 h2
        have tail : (storeIx r).Nodup := by
          unfold storeIx at hnd ⊢
          simp only [List.filterMap_cons] at hnd
          split at hnd
          · exact hnd
          · exact (List.nodup_cons.1 hnd).2
        have mem : ∀ q ∈ r, ∀ j x m, q.s = some (j, x, m) → j ∈ storeIx r := by
          intro q hq j x m hs
          unfold storeIx
          rw [List.mem_filterMap]
          exact ⟨q, hq, by rw [hs]; rfl⟩
        have head : ∀ j x m, y.s = some (j, x, m) → j ∉ storeIx r := by
          intro j x m hs
          unfold storeIx at hnd ⊢
          simp only [List.filterMap_cons, hs, Option.map_some] at hnd
          exact (List.nodup_cons.1 hnd).1
        rcases List.mem_cons.1 hq with hqy | hqr <;> rcases List.mem_cons.1 hq' with hqy' | hqr'
        · rw [hqy, hqy']
        · subst hqy; exact (head j x m h1 (mem q' hqr' j x' m' h2)).elim
        · subst hqy'; exact (head j x' m' h2 (mem q hqr j x m h1)).elim
        · exact ih tail q hqr q' hqr' j x m x' m' h1 h2
    exact fun q hq q' hq' j x m x' m' => key ns nodS q hq q' hq' j x m x' m'
  have hfr : ∀ s v, lk st.fr s = some v → v.lt st.hp.length = true := hi.f.clo
  have hcl : (∀ s u, lk frX s = some u → u.lt st.hp.length = true) → ∀ q ∈ ns, (ct q).lt st.hp.length = true := by
    intro hxl q hq
    have hK := hct q hq (fun c => c = ct q) rfl
    unfold vcont at hK
    split at hK
    · rw [← hK]
      cases q.z <;> rfl
    · rename_i j x m hs
      split at hK
      · split at hK
        · rw [← hK.2]; rfl
        · exact hK.elim
      · rename_i v hne he
        split at hK
        · exact hK.elim
        · rw [← hK.2]
          simp only [Bk.lt, Bool.and_eq_true]
          refine ⟨?_, hK.1⟩
          cases x with
          | t s => exact hxl s _ he
          | c b =>
            simp only [ev, Option.some.injEq, Sv.one.injEq] at he
            subst he
            obtain ⟨-, -, -, o, -, -, -, t, v', -, -, hca⟩ := hSq q hq j _ m hs
            unfold chkAr at hca
            split at hca
            · rename_i heq; cases heq
            · rename_i heq; cases heq; exact (isVal_sound (ρ := ρ) (σ := σ) hca).2 _
            · rename_i heq; cases heq; rfl
            · cases hca
      · exact hK.elim
  have idx_lt : ∀ k ∈ L.map (·.1) ++ (ns.map (·.i) ++ storeIx ns), k < ops.size := by
    intro k hk
    rcases List.mem_append.1 hk with hk | hk
    · obtain ⟨z, hz, rfl⟩ := List.mem_map.1 hk
      obtain ⟨o, ho, -⟩ := hLat z hz
      exact (Array.getElem?_eq_some_iff.1 ho).1
    · rcases List.mem_append.1 hk with hk | hk
      · obtain ⟨q, hq, rfl⟩ := List.mem_map.1 hk
        obtain ⟨o, ho, -⟩ := hNq q hq
        exact (Array.getElem?_eq_some_iff.1 ho).1
      · unfold storeIx at hk
        obtain ⟨q, hq, hk⟩ := List.mem_filterMap.1 hk
        obtain ⟨⟨j, x, m⟩, hs, rfl⟩ := Option.map_eq_some_iff.1 hk
        obtain ⟨-, -, -, o, ho, -⟩ := hSq q hq j x m hs
        exact (Array.getElem?_eq_some_iff.1 ho).1
  have cov' : ∀ k, k < ops.size → k ∈ es.map (·.1) ∨ k ∈ L.map (·.1) ++ (ns.map (·.i) ++ storeIx ns) ∨ k ∈ fs.map (·.1) := by
    intro k hk
    have := hcov k (List.mem_range.2 hk)
    rw [List.contains_iff_mem] at this
    exact (List.mem_append.1 this).imp (fun h => h) List.mem_append.1
  have disE' : ∀ k ∈ es.map (·.1), k ∉ L.map (·.1) ++ (ns.map (·.i) ++ storeIx ns) ∧ k ∉ fs.map (·.1) := fun k hk =>
    ⟨fun h => disE k hk k (List.mem_append.2 (.inl h)) rfl, fun h => disE k hk k (List.mem_append.2 (.inr h)) rfl⟩
  -- when all of the first part is done
  have late : ∀ (fuel : Nat) (l : Array Bool) (a : Act) (w : World) (bs : Nat → Nat) (base : Nat), DI P ρ σ₀ H₀ w₀ N ops st.fr st.hp σ (es.map (·.1)) L ns ct base (Dn l) a w bs → l.size = ops.size → (∀ k ∈ fs.map (·.1), ¬ Dn l k) → und ops l ≤ fuel → (∀ k ∈ es.map (·.1), Dn l k) →
      (∀ k ∈ L.map (·.1) ++ (ns.map (·.i) ++ storeIx ns), Dn l k) → wpAny P .any ops Q fuel l a w := by
    intro fuel l a w bs base di hl hun hu hes hearly
    have hallL : ∀ z ∈ L, Dn l z.1 := fun z hz => hearly _ (List.mem_append.2 (.inl (List.mem_map_of_mem hz)))
    have hxl : ∀ s u, lk frX s = some u → u.lt st.hp.length = true := by
      intro s u hlk
      rcases ResL_lk hres hlk with ⟨y, hy, hyd, hal⟩ | ⟨hn, hlk⟩ | ⟨y, hy, z, hz, hyd, hzd, hne⟩
      · rw [← hal y hy hyd rfl]
        exact di.xl y hy (hallL y hy)
      · exact hfr s u hlk
      · exact (hne (mem_unique nodL hy hz (dst_inj hinj (s := s) (by rw [hdL y hy]; exact hyd) (by rw [hdL z hz]; exact hzd)))).elim
    have hinv := di.finish hres hfr hinj hdL nodL hnd hallL
      (fun q hq => ⟨hearly _ (List.mem_append.2 (.inr (List.mem_append.2 (.inl (List.mem_map_of_mem hq))))), fun j x m hs => hearly _ (List.mem_append.2 (.inr (List.mem_append.2 (.inr (memS q hq j x m hs)))))⟩)
      (fun j s hD hje hj => by
        have hjl : j < ops.size := by
          unfold dstOf at hj
          obtain ⟨o, ho, -⟩ := Option.bind_eq_some_iff.1 hj
          exact (Array.getElem?_eq_some_iff.1 ho).1
        rcases (cov' j hjl).resolve_left hje with h | h
        · rcases List.mem_append.1 h with h | h
          · obtain ⟨z, hz, rfl⟩ := List.mem_map.1 h
            exact .inl ⟨z, hz, rfl⟩
          · rcases List.mem_append.1 h with h | h
            · obtain ⟨q, hq, rfl⟩ := List.mem_map.1 h
              exact .inr ⟨q, hq, rfl⟩
            · unfold storeIx at h
              obtain ⟨q, hq, hk⟩ := List.mem_filterMap.1 h
              obtain ⟨⟨j', x, m⟩, hs, rfl⟩ := Option.map_eq_some_iff.1 hk
              obtain ⟨-, -, -, o, ho, hd0, -⟩ := hSq q hq j' x m hs
              simp [dstOf, ho, hd0] at hj
        · exact (hun j h hD).elim)
      (hcl hxl) nodN
    exact phase2 hfn hB hq fs _ fuel l a w _ _ hF hl di.clo (fun k hk => (cov' k hk).elim (fun h => .inl (hes k h)) fun h => h.imp (hearly k) (fun h => h)) hun nodF hu hinv (vregp_eq.mp hv2)
  -- the first part
  have phase1 : ∀ (fuel : Nat) (l : Array Bool) (a : Act) (w : World) (bs : Nat → Nat) (base : Nat), DI P ρ σ₀ H₀ w₀ N ops st.fr st.hp σ (es.map (·.1)) L ns ct base (Dn l) a w bs → l.size = ops.size → (∀ k ∈ fs.map (·.1), ¬ Dn l k) → und ops l ≤ fuel → (∀ k ∈ es.map (·.1), Dn l k) →
      wpAny P .any ops Q fuel l a w := by
    intro fuel
    induction fuel with
    | zero =>
      intro l a w bs base di hl hun hu hes
      exact late 0 l a w bs base di hl hun hu hes (fun k hk => Classical.byContradiction fun h => by
        have hk' : k < ops.size := idx_lt k hk
        have := und_pos hk' h
        omega)
    | succ fuel ih =>
      intro l a w bs base di hl hun hu hes
      by_cases hearly : ∀ k ∈ L.map (·.1) ++ (ns.map (·.i) ++ storeIx ns), Dn l k
      · exact late (fuel + 1) l a w bs base di hl hun hu hes hearly
      · simp only [Classical.not_forall] at hearly
        obtain ⟨k0, hk0, hu0⟩ := hearly
        refine ⟨fun h => (ready_ex hB hl (idx_lt k0 hk0) hu0 h).elim, fun i hir => ?_⟩
        obtain ⟨h1, h2, o, ho, h3⟩ := ready_spec hir
        have hilt : i < ops.size := (Array.getElem?_eq_some_iff.1 ho).1
        have hset := Dn_set h2
        have hund := und_set hilt hl h1
        have hun' : i ∈ L.map (·.1) ++ (ns.map (·.i) ++ storeIx ns) → ∀ k ∈ fs.map (·.1), ¬ Dn (l.setIfInBounds i true) k := by
          intro hie k hk
          rw [hset]
          rintro (h | h)
          · exact hun k hk h
          · subst h
            exact disF k hie k hk rfl
        have hine : i ∉ es.map (·.1) := fun h => h1 (hes i h)
        rcases (cov' i hilt).resolve_left hine with hie | hif
        · have go : ∀ (a' : Act) (w' : World) (bs' : Nat → Nat), DI P ρ σ₀ H₀ w₀ N ops st.fr st.hp σ (es.map (·.1)) L ns ct base (fun k => Dn l k ∨ k = i) a' w' bs' → wpAny P .any ops Q fuel (l.setIfInBounds i true) a' w' := by
            intro a' w' bs' di'
            rw [← hset] at di'
            exact ih _ a' w' bs' base di' (by simpa using hl) (hun' hie) (by omega) (fun k hk => by rw [hset]; exact .inl (hes k hk))
          rcases List.mem_append.1 hie with hiL | hiR
          · -- an operation of the list
            obtain ⟨y, hy, rfl⟩ := List.mem_map.1 hiL
            obtain ⟨o', ho', hci⟩ := hLat y hy
            rw [ho] at ho'; cases ho'
            obtain ⟨L1, L2, frx, hLe, hres1, hone⟩ := ResL_at hres hy
            have hXe : xs = L1.map (fun x => (x.1, x.2.1)) ++ (y.1, y.2.1) :: L2.map (fun x => (x.1, x.2.1)) := by rw [← hL, hLe]; simp
            have hread : ∀ s ∈ y.2.1.op.sl ++ guardSl y.2.1.g, ∀ u, lk frx s = some u → a.tmps[s]? = some (renS ρ σ u) ∧ u.lt st.hp.length = true := by
              intro s hs u hlk
              have h4 : readOk ops B (L1.map (·.1) ++ es.map (·.1)) y.1 s = true := by
                rw [hXe] at hX
                have h5 := (chkX_at hX).2 s hs
                rw [← h5]
                apply readOk_congr
                intro j
                rw [Bool.eq_iff_iff]
                simp only [List.contains_iff_mem, List.mem_append, List.map_map, Function.comp_def]
                exact Or.comm
              exact di.read hB hinj hfr ho h1 h3 (fun z hz => by rw [hLe]; simp [hz]) hdL nodL hres1 h4 hlk
            simp only [chkI, Bool.and_eq_true] at hci
            obtain ⟨⟨c1, c2⟩, c3⟩ := hci
            obtain ⟨hd, hdN⟩ := chkDst_spec c1
            have hdN' : ∀ t, y.2.1.d = some t → t < N := fun t ht => hdN t (by rw [hd]; exact ht)
            have fin : ∀ (σ' : Nat → Nat) (w' : World), Sp ρ σ st.hp w σ' st.hp w' → y.2.2.lt st.hp.length = true → wpAny P .any ops Q fuel (l.setIfInBounds y.1 true) (a.put o.dst (renS ρ σ' y.2.2)) w' := by
              intro σ' w' sp hl'
              rw [hd]
              exact go _ _ bs (di.stepX hinj hy (hdL y hy) nodL ho h3 hine hdN' hdL hnd (fun q hq e => hnLN y hy q hq e.symm) (fun q hq j x m hs e => hnLS y hy q hq j x m hs e.symm) sp hl')
            have hsm : FRel ρ σ a.tmps (small frx y.2.1.op.sl) st.hp.length := by
              refine ⟨?_, ?_⟩
              · intro s u hlk
                rw [small_lk] at hlk
                split at hlk
                · rename_i hs; exact (hread s (List.mem_append.2 (.inl hs)) u hlk).1
                · cases hlk
              · intro s u hlk
                rw [small_lk] at hlk
                split at hlk
                · rename_i hs; exact (hread s (List.mem_append.2 (.inl hs)) u hlk).2
                · cases hlk
            have run : vop P ρ frx st.hp y.2.1.op (fun v' H' => v' = y.2.2 ∧ H' = st.hp) → o.wp P a w (wpAny P .any ops Q fuel (l.setIfInBounds y.1 true)) Q := by
              intro hvo
              refine op_sound hfn c3 hsm di.sp.h (vop_congr (fun s hs => by rw [small_lk, if_pos hs]) hvo) ?_
              rintro v H' σ' w' ⟨rfl, rfl⟩ sp hl'
              exact fin σ' w' sp hl'
            refine wpOp_of ho ?_
            unfold chkGuard at c2
            unfold One at hone
            split at c2
            · rename_i g1 g2
              rw [g2] at hone
              rw [if_pos (by simp [Region.wanted, g1])]
              exact run hone
            · rename_i jj b s b' g1 g2
              simp only [Bool.and_eq_true, beq_iff_eq] at c2
              obtain ⟨rfl, c2⟩ := c2
              rw [g2] at hone
              obtain ⟨u, hg, hone⟩ := hone
              obtain ⟨ht, -⟩ := hread s (by rw [g2]; simp [guardSl]) _ hg
              rcases hone with ⟨rfl, e1⟩ | ⟨hoff, e2⟩
              · have hyl : yielded ops a.tmps jj = some b := by
                  unfold yielded
                  rw [c2]
                  simp [ht, renS, ren]
                rw [if_pos (by simp [Region.wanted, g1, hyl])]
                exact run e1
              · have hyl : yielded ops a.tmps jj ≠ some b := by
                  unfold yielded
                  rw [c2]
                  unfold offB at hoff
                  split at hoff
                  · simp only [bne_iff_ne, ne_eq] at hoff
                    simpa [ht, renS, ren] using hoff
                  · simp [ht, renS]
                  · cases hoff
                rw [if_neg (by simp [Region.wanted, g1, hyl])]
                have := fin σ w (Sp.refl di.sp.h) (by rw [e2]; rfl)
                rw [e2] at this
                exact this
            · cases c2
          · rcases List.mem_append.1 hiR with hiN | hiS
            · -- a new variable
              obtain ⟨q, hq, rfl⟩ := List.mem_map.1 hiN
              obtain ⟨o', ho', e1, e2, e3, e4⟩ := hNq q hq
              rw [ho] at ho'; cases ho'
              refine wpOp_of ho ?_
              rw [if_pos (by simp [Region.wanted, e3])]
              simp only [chkOp] at e4
              split at e4
              · rename_i t hop
                obtain ⟨v, z1, z2, z3⟩ := zeroOk_sound (ρ := ρ) (σ := σ) (H := st.hp) (w := w) e4
                refine value_wp (w' := { w with heap := w.heap.push (.cells (cellsB ρ σ q.z.bk) t) }) (v := .pointer (some ⟨w.heap.size, 0, none⟩)) ?_ ?_
                · simp [execOp, hop, Instr.alloc, z1, newVar, newRow, z2]
                · rw [e1]
                  refine go _ _ _ (di.stepN hB hinj hq ho h1 h3 hine e2 hdL hnd (fun z hz => hnLN z hz q hq) (fun q1 hq1 q2 hq2 j x m hs e => hnNS q1 hq1 q2 hq2 j x m hs e.symm) (fun q' hq' e => hnq q hq q' hq' e) ?_ ?_ t)
                  · intro hs
                    have := hct q hq (fun c => c = ct q) rfl
                    unfold vcont at this
                    rw [hs] at this
                    exact this.symm
                  · intro j x m hs
                    obtain ⟨s1, -, -, oj, hoj, -⟩ := hSq q hq j x m hs
                    exact ⟨s1, (Array.getElem?_eq_some_iff.1 hoj).1⟩
              · cases e4
            · -- a store into one
              unfold storeIx at hiS
              obtain ⟨q, hq, hk⟩ := List.mem_filterMap.1 hiS
              obtain ⟨⟨j, x, m⟩, hs, rfl⟩ := Option.map_eq_some_iff.1 hk
              obtain ⟨s1, s2, s3, o', ho', s4, s5, t, v, s6, s7, s8⟩ := hSq q hq j x m hs
              simp only at ho h1 h2 h3 hilt hset hund hun' hie go hiR
              rw [ho] at ho'; cases ho'
              have hDq := di.clo.ready hB ho h3 q.i s1
              obtain ⟨p1, p2, T, p3⟩ := di.nn q hq hDq
              have hcv := hct q hq (fun c => c = ct q) rfl
              unfold vcont at hcv
              simp only [hs] at hcv
              have hread : ∀ u, ev frX x = some u → a.eval v = renS ρ σ u := by
                intro u hu
                have hsm : FRel ρ σ a.tmps (small frX x.sl) st.hp.length := by
                  have rd : ∀ s ∈ x.sl, ∀ u, lk frX s = some u → a.tmps[s]? = some (renS ρ σ u) ∧ u.lt st.hp.length = true := by
                    intro s hs' u hlk
                    exact di.read hB hinj hfr ho h1 h3 (fun z hz => hz) hdL nodL hres (s3 s hs') hlk
                  refine ⟨?_, ?_⟩
                  · intro s u hlk
                    rw [small_lk] at hlk
                    split at hlk
                    · rename_i hs'; exact (rd s hs' u hlk).1
                    · cases hlk
                  · intro s u hlk
                    rw [small_lk] at hlk
                    split at hlk
                    · rename_i hs'; exact (rd s hs' u hlk).2
                    · cases hlk
                refine (chkAr_sound s8 hsm ?_).1
                rw [← hu]
                exact (ev_congr fun s hs' => by rw [small_lk, if_pos hs']).symm
              have hev : ∃ u, a.eval v = u ∧ u.cells = cellsB ρ σ (ct q) ∧ u.cells.size = m ∧ (∀ c ∈ u.cells.toList, c.oneCell' = true) := by
                split at hcv
                · rename_i hd n f he
                  split at hcv
                  · rename_i hh mm hz
                    refine ⟨_, hread _ he, ?_, ?_, ?_⟩
                    · rw [← hcv.2]; rfl
                    · rw [hz] at s2
                      simp only [Zk.size] at s2
                      simp only [renS, ren, Value.cells, cellsOf_size]
                      rw [hcv.1, s2]
                    · exact cellsOf_one _ _ _
                  · exact hcv.elim
                · rename_i b hne he
                  split at hcv
                  · exact hcv.elim
                  · rename_i hz
                    obtain ⟨o1, o2⟩ := ren_one (ρ := ρ) (σ := σ) hcv.1
                    refine ⟨_, hread _ he, ?_, ?_, ?_⟩
                    · rw [← hcv.2]; exact o2
                    · simp only [renS]
                      rw [o2]
                      cases hqz : q.z with
                      | «by» h n => exact (hz _ _ hqz).elim
                      | _ => rw [hqz] at s2; exact s2
                    · intro c hc
                      simp only [renS, o2] at hc
                      simp at hc
                      subst hc
                      exact o1
                · exact hcv.elim
              obtain ⟨u, hu1, hu2, hu3, hu4⟩ := hev
              have hptr : a.eval (.tmp q.d) = .pointer (some ⟨bs q.i, 0, none⟩) := by simp [Act.eval, p1]
              have hzs : ∀ z : Zk, (cellsB ρ σ z.bk).size = z.size := by
                intro z; cases z <;> simp [Zk.bk, cellsB, cellsOf_size, Zk.size]
              have hcell : ∃ cs, w.heap[bs q.i]? = some (.cells cs T (0, 0)) ∧ cs.size = m := by
                rcases p3 with p3 | ⟨-, p3⟩
                · exact ⟨_, p3, by rw [← hu2]; exact hu3⟩
                · exact ⟨_, p3, by rw [hzs]; exact s2⟩
              obtain ⟨cs, hcs1, hcs2⟩ := hcell
              have hrun := run_storeAll (P := P) (off := 0) s7 hu3 hcs1 (by omega) hu4
              have hfull : (cs.toList.take 0 ++ u.cells.toList ++ cs.toList.drop (0 + m)).toArray = cellsB ρ σ (ct q) := by
                rw [List.take_zero, List.nil_append, List.drop_of_length_le (by simp; omega), List.append_nil, hu2]
              rw [hfull] at hrun
              refine wpOp_of ho ?_
              rw [if_pos (by simp [Region.wanted, s5])]
              refine skip_wp (w' := w.setRow (bs q.i) (cellsB ρ σ (ct q))) ?_ ?_
              · simp [execOp, s6, hptr, hu1, Instr.storeAt, Instr.sureAddr, hrun]
              · rw [s4]
                exact go a _ bs (di.stepS hq hs ho h3 hDq (by simp [dstOf, ho, s4]) (fun z hz => hnLS z hz q hq j x m hs) (fun q' hq' => hnNS q' hq' q hq j x m hs) (fun q' hq' e => hnq q hq q' hq' e) (fun q' hq' x' m' hs' => hsj q hq q' hq' j x m x' m' hs hs'))
        · exfalso
          obtain ⟨p, hp, rfl⟩ := List.mem_map.1 hif
          obtain ⟨-, h4⟩ := chkF_at hF hp
          exact hu0 (di.clo.ready hB ho h3 k0 (h4 k0 hk0))
  refine phase1 fuel0 l0 a w (fun _ => 0) w.heap.size ?_ hl0 (fun k hk h => (disE' k ((hD0 k).1 h)).2 hk) hu0 (fun k hk => (hD0 k).2 hk)
  have hnE : ∀ k ∈ L.map (·.1) ++ (ns.map (·.i) ++ storeIx ns), ¬ Dn l0 k := fun k hk h => (disE' k ((hD0 k).1 h)).1 hk
  refine ⟨hclo0, fun s v hlk _ => hi.f.val s v hlk, fun y hy hD => (hnE _ (List.mem_append.2 (.inl (List.mem_map_of_mem hy))) hD).elim, fun y hy hD => (hnE _ (List.mem_append.2 (.inl (List.mem_map_of_mem hy))) hD).elim, hi.s,
    fun q hq hD => (hnE _ (List.mem_append.2 (.inr (List.mem_append.2 (.inl (List.mem_map_of_mem hq))))) hD).elim, fun q hq q' hq' hD => (hnE _ (List.mem_append.2 (.inr (List.mem_append.2 (.inl (List.mem_map_of_mem hq))))) hD).elim, fun k hk => hi.s.h.lt hk, hi.s.k.size, Nat.le_refl _, hi.sz, hi.df⟩
end
end Hf
/- The engine, part 15: code, functions. -/
namespace Hf
open Go

inductive PC where
  | skip
  | ret
  | exit (id : Nat)
  | seq (a b : PC)
  | cond (x : Ar) (a b : PC)
  | blk (id : Nat) (c : PC)
  | loop (c : PC)
  | reg (ps : List PI)
  | drw (B : List Nat) (es xs : List (Nat × PI)) (ns : List NI) (fs : List (Nat × PI))

inductive Ex where
  | norm
  | exit (id : Nat)
  | ret

def Ex.ex : Ex → Exit
  | .norm => .normal
  | .exit id => .exit id
  | .ret => .ret

/-! ### a state that says less -/
def leF : List (Nat × Sv) → List (Nat × Sv) → Prop
  | [], _ => True
  | (s, v) :: r, f => lk f s = some v ∧ leF r f
def leH : List Blk → List Blk → Prop
  | [], _ => True
  | x :: r, y :: r' => x = y ∧ leH r r'
  | _ :: _, [] => False
def cloS (m : Nat) (a : St) : Bool := Nat.ble m a.hp.length && a.fr.all (fun p => p.2.lt a.hp.length) && a.hp.all (fun B => B.c.lt a.hp.length)
/-- a says less than b -/
def le (m : Nat) (a b : St) : Prop := leF a.fr b.fr ∧ leH a.hp b.hp ∧ cloS m a = true

def chkC (P : Program) (ρ : Nat → FuncId) (N : Nat) : Code → PC → Bool
  | .skip, .skip => true
  | .ret, .ret => true
  | .exit id, .exit id' => id == id'
  | .seq a b, .seq a' b' => chkC P ρ N a a' && chkC P ρ N b b'
  | .cond c a b, .cond x a' b' => chkAr ρ c x && chkC P ρ N a a' && chkC P ρ N b b'
  | .block id c, .blk id' c' => id == id' && chkC P ρ N c c'
  | .loop c, .loop c' => chkC P ρ N c c'
  | .region _ ops draw, .reg ps => !draw && chkReg P ρ N ops ops.toList ps
  | .region _ ops draw, .drw B es xs ns fs => draw && chkDrw P ρ N ops es xs ns fs B
  | _, _ => false

section
variable (P : Program) (ρ : Nat → FuncId) (m : Nat)
def kSkip (st : St) (Q : Ex → St → Prop) : Prop := Q .norm st
def kRet (st : St) (Q : Ex → St → Prop) : Prop := Q .ret st
def kExit (id : Nat) (st : St) (Q : Ex → St → Prop) : Prop := Q (.exit id) st
def kSeq (_ _ : PC) (va vb : St → (Ex → St → Prop) → Prop) (st : St) (Q : Ex → St → Prop) : Prop := va st fun e st' => match e with
    | .norm => vb st' Q
    | .exit id => Q (.exit id) st'
    | .ret => Q .ret st'
def kCond (x : Ar) (_ _ : PC) (va vb : St → (Ex → St → Prop) → Prop) (st : St) (Q : Ex → St → Prop) : Prop := match st with
  | ⟨fr, hp⟩ => match ev fr x with
    | some (.one (.b c)) => brB c fun c => match c with
      | true => va ⟨fr, hp⟩ Q
      | false => vb ⟨fr, hp⟩ Q
    | _ => False
def kBlk (id : Nat) (_ : PC) (va : St → (Ex → St → Prop) → Prop) (st : St) (Q : Ex → St → Prop) : Prop := va st fun e st' => match e with
    | .norm => Q .norm st'
    | .exit id' => match Nat.beq id' id with
      | true => Q .norm st'
      | false => Q (.exit id') st'
    | .ret => Q .ret st'
def kLoop (_ : PC) (va : St → (Ex → St → Prop) → Prop) (st : St) (Q : Ex → St → Prop) : Prop := ∃ (I : Nat → St) (F : Nat → Prop) (n : Nat), F 0 ∧ le m (I 0) st ∧ ∀ i, i ≤ n → F i → va (I i) fun e st' => match e with
    | .norm => i < n ∧ F (i + 1) ∧ le m (I (i + 1)) st'
    | .exit id => Q (.exit id) st'
    | .ret => Q .ret st'
noncomputable def kReg (ps : List PI) (st : St) (Q : Ex → St → Prop) : Prop := vreg P ρ ps st fun st' => Q .norm st'
noncomputable def kDrw (_ : List Nat) (es xs : List (Nat × PI)) (ns : List NI) (fs : List (Nat × PI)) (st : St) (Q : Ex → St → Prop) : Prop := vdrw P ρ es xs ns fs st fun st' => Q .norm st'
noncomputable def vc (c : PC) : St → (Ex → St → Prop) → Prop :=
  PC.rec (motive := fun _ => St → (Ex → St → Prop) → Prop) kSkip kRet kExit kSeq kCond kBlk (kLoop m) (kReg P ρ) (kDrw P ρ) c
end

section
variable {P : Program} {ρ : Nat → FuncId} {m : Nat} {N : Nat} {σ₀ : Nat → Nat} {H₀ : List Blk} {w₀ : World}

theorem leF_lk : ∀ {a b : List (Nat × Sv)}, leF a b → ∀ s v, lk a s = some v → ∃ p ∈ a, p = (s, v) ∧ lk b s = some v
  | [], _, _, s, v, h => by simp [lk] at h
  | (t, u) :: r, b, hl, s, v, h => by
    simp only [lk] at h
    split at h
    · rename_i e; subst e; cases h
      exact ⟨_, List.mem_cons_self, rfl, hl.1⟩
    · obtain ⟨p, h1, h2, h3⟩ := leF_lk hl.2 s v h
      exact ⟨p, by simp [h1], h2, h3⟩
theorem leH_get : ∀ {a b : List Blk}, leH a b → ∀ (k : Nat) (x : Blk), a[k]? = some x → b[k]? = some x
  | [], _, _, k, x, h => by simp at h
  | x :: r, y :: r', hl, k, z, h => by
    cases k with
    | zero => simp at h ⊢; rw [← h, hl.1]
    | succ k => rw [List.getElem?_cons_succ] at h ⊢; exact leH_get hl.2 k z h
  | _ :: _, [], hl, _, _, _ => hl.elim

theorem Inv.weak {σ : Nat → Nat} {a : Act} {w : World} {x y : St} (hi : Inv ρ σ₀ H₀ w₀ N σ a w y) (hm : H₀.length ≤ m) (hl : le m x y) : Inv ρ σ₀ H₀ w₀ N σ a w x := by
  obtain ⟨h1, h2, h3⟩ := hl
  simp only [cloS, Bool.and_eq_true, List.all_eq_true] at h3
  obtain ⟨⟨h3, h4⟩, h5⟩ := h3
  have hmx : m ≤ x.hp.length := Nat.le_of_ble_eq_true h3
  have hlen : ∀ k, k < x.hp.length → k < y.hp.length := by
    intro k hk
    have := leH_get h2 k x.hp[k] (by simp [hk])
    exact (List.getElem?_eq_some_iff.1 this).1
  refine ⟨⟨?_, ?_⟩, ⟨⟨?_, ?_, ?_⟩, hi.s.k, Nat.le_trans hm hmx, hi.s.same, ?_, ?_⟩, hi.sz, hi.df⟩
  · intro s v hv
    obtain ⟨p, -, -, e⟩ := leF_lk h1 s v hv
    exact hi.f.val s v e
  · intro s v hv
    obtain ⟨p, hp, rfl, -⟩ := leF_lk h1 s v hv
    exact h4 _ hp
  · intro k B hB
    exact hi.s.h.at_ k B (leH_get h2 k B hB)
  · intro j k B hjk hk hB hro
    exact hi.s.h.sep j k B hjk (hlen k hk) (leH_get h2 j B hB) hro
  · intro k B hB
    exact h5 B (List.mem_of_getElem? hB)
  · intro k B B' e e'
    exact hi.s.rof k B B' e (leH_get h2 k B' e')
  · intro k h1' h2'
    exact hi.s.fresh k h1' (hlen k h2')

theorem wp_loop_n {c : Code} {a : Act} {w : World} {Q : Exit → Act → World → Prop} (I : Nat → Act → World → Prop) (n : Nat) (h₀ : I 0 a w)
    (round : ∀ i, i ≤ n → ∀ a w, I i a w → c.wp P (Exit.then (fun a' w' => i < n ∧ I (i + 1) a' w') Q) a w) : (Code.loop c).wp P Q a w := by
  intro b k cs
  have key : ∀ d i a w, i ≤ n → n - i = d → I i a w →
      ∃ e a' w', Q e a' w' ∧ Arrives P (lone (b.at a (.code c :: .inLoop c :: k)) cs w) b k cs e a' w' := by
    intro d
    induction d using Nat.strongRecOn with
    | _ d ih =>
      intro i a w hin hd hI
      obtain ⟨e, a₁, w₁, hq, harr⟩ := round i hin a w hI b (.inLoop c :: k) cs
      cases e with
      | normal =>
        obtain ⟨hlt, hI₁⟩ := hq
        obtain ⟨e₂, a₂, w₂, hq₂, harr₂⟩ := ih (n - (i + 1)) (by omega) (i + 1) a₁ w₁ (by omega) rfl hI₁
        exact ⟨e₂, a₂, w₂, hq₂, .of_steps (Steps.trans harr (.one step_inLoop)) harr₂⟩
      | exit id => exact ⟨_, a₁, w₁, hq, .pass (x := .inLoop c) rfl (fun _ _ => .inl (by simp)) harr⟩
      | goto l => exact ⟨_, a₁, w₁, hq, .pass (x := .inLoop c) rfl (fun _ _ => .inl (by simp)) harr⟩
      | ret => exact ⟨_, a₁, w₁, hq, .pass (x := .inLoop c) rfl (fun _ _ => .inl (by simp)) harr⟩
      | panic ch => exact ⟨_, a₁, w₁, hq, .pass (x := .inLoop c) rfl (fun _ _ => .inl (by simp)) harr⟩
      | outgrown => exact ⟨_, a₁, w₁, hq, .pass (x := .inLoop c) rfl (fun _ _ => .inl (by simp)) harr⟩
  obtain ⟨e, a', w', hq, harr⟩ := key _ 0 a w (Nat.zero_le _) rfl h₀
  exact ⟨e, a', w', hq, .of_steps (.one step_loop) harr⟩

theorem vc_sound (hfn : ∀ f, fnOk P (ρ f) = true) (hmo : P.follows .mixedOrders = true) (hm : H₀.length ≤ m) : ∀ {pc : PC} {c : Code} {σ : Nat → Nat} {a : Act} {w : World} {st : St} {Qp : Ex → St → Prop} {Q : Exit → Act → World → Prop},
    chkC P ρ N c pc = true → Inv ρ σ₀ H₀ w₀ N σ a w st → vc P ρ m pc st Qp → (∀ e st' σ' a' w', Qp e st' → Inv ρ σ₀ H₀ w₀ N σ' a' w' st' → Q e.ex a' w') → c.wp P Q a w := by
  intro pc
  induction pc with
  | skip =>
    intro c σ a w st Qp Q hc hi hv hq
    cases c <;> first | (simp [chkC] at hc; done) | skip
    exact wp_skip (hq .norm st σ a w hv hi)
  | ret =>
    intro c σ a w st Qp Q hc hi hv hq
    cases c <;> first | (simp [chkC] at hc; done) | skip
    exact wp_ret (hq .ret st σ a w hv hi)
  | exit id =>
    intro c σ a w st Qp Q hc hi hv hq
    cases c <;> first | (simp [chkC] at hc; done) | skip
    simp only [chkC, beq_iff_eq] at hc; subst hc
    exact wp_exit (hq (.exit _) st σ a w hv hi)
  | seq x y ihx ihy =>
    intro c σ a w st Qp Q hc hi hv hq
    cases c <;> first | (simp [chkC] at hc; done) | skip
    simp only [chkC, Bool.and_eq_true] at hc
    refine wp_seq (ihx hc.1 hi hv ?_)
    intro e st' σ' a' w' hQ hi'
    cases e with
    | norm => exact ihy hc.2 hi' hQ hq
    | exit id => exact hq (.exit id) st' σ' a' w' hQ hi'
    | ret => exact hq .ret st' σ' a' w' hQ hi'
  | cond x a' b' iha ihb =>
    intro c σ a w st Qp Q hc hi hv hq
    cases c <;> first | (simp [chkC] at hc; done) | skip
    simp only [chkC, Bool.and_eq_true] at hc
    obtain ⟨⟨h1, h2⟩, h3⟩ := hc
    obtain ⟨fr, hp⟩ := st
    change kCond x a' b' (vc P ρ m a') (vc P ρ m b') ⟨fr, hp⟩ Qp at hv
    simp only [kCond] at hv
    split at hv
    · rename_i b he
      replace hv := brB_elim hv
      obtain ⟨e1, -⟩ := chkAr_sound h1 hi.f he
      cases b
      · exact wp_cond_false e1 (ihb h3 hi hv hq)
      · exact wp_cond_true e1 (iha h2 hi hv hq)
    · exact hv.elim
  | blk id c' ih =>
    intro c σ a w st Qp Q hc hi hv hq
    cases c <;> first | (simp [chkC] at hc; done) | skip
    simp only [chkC, Bool.and_eq_true, beq_iff_eq] at hc
    obtain ⟨rfl, hc⟩ := hc
    refine wp_block (ih hc hi hv ?_)
    intro e st' σ' a' w' hQ hi'
    cases e with
    | norm => exact hq .norm st' σ' a' w' hQ hi'
    | exit id' =>
      simp only [Ex.ex, Exit.inBlock]
      simp only at hQ
      split at hQ
      · rename_i hb
        have hb := Nat.eq_of_beq_eq_true hb
        rw [if_pos hb]
        exact hq .norm st' σ' a' w' hQ hi'
      · rename_i hb
        have hb := Nat.ne_of_beq_eq_false hb
        rw [if_neg hb]
        exact hq (.exit id') st' σ' a' w' hQ hi'
    | ret => exact hq .ret st' σ' a' w' hQ hi'
  | loop c' ih =>
    intro c σ a w st Qp Q hc hi hv hq
    cases c <;> first | (simp [chkC] at hc; done) | skip
    simp only [chkC] at hc
    obtain ⟨I, F, n, hF, h0, hr⟩ := hv
    refine wp_loop_n (fun i a w => F i ∧ ∃ σ, Inv ρ σ₀ H₀ w₀ N σ a w (I i)) n ⟨hF, σ, hi.weak hm h0⟩ ?_
    rintro i hin a w ⟨hF, σ, hi⟩
    refine ih hc hi (hr i hin hF) ?_
    intro e st' σ' a' w' hQ hi'
    cases e with
    | norm => exact ⟨hQ.1, hQ.2.1, σ', hi'.weak hm hQ.2.2⟩
    | exit id => exact hq (.exit id) st' σ' a' w' hQ hi'
    | ret => exact hq .ret st' σ' a' w' hQ hi'
  | reg ps =>
    intro c σ a w st Qp Q hc hi hv hq
    cases c <;> first | (simp [chkC] at hc; done) | skip
    simp only [chkC, Bool.and_eq_true, Bool.not_eq_true'] at hc
    obtain ⟨rfl, hc⟩ := hc
    exact wp_region_list (reg_sound hfn hc hi hv fun st' σ' a' w' hQ hi' => hq .norm st' σ' a' w' hQ hi')
  | drw B es xs ns fs =>
    intro c σ a w st Qp Q hc hi hv hq
    cases c <;> first | (simp [chkC] at hc; done) | skip
    simp only [chkC, Bool.and_eq_true] at hc
    obtain ⟨rfl, hc⟩ := hc
    exact drw_sound hfn hmo hc hi hv fun st' σ' a' w' hQ hi' => hq .norm st' σ' a' w' hQ hi'

/-! ### functions -/
inductive PRes where
  | t (s : Nat)
  | c (s : Nat) (h n : Nat)
  | c1 (s : Nat)

structure PF where
  np : Nat
  nt : Nat
  res : List PRes
  body : PC

def mkS : List At → Sv
  | [a] => .one a
  | l => .tup l

def vres (st : St) : List PRes → (List At → Prop) → Prop
  | [], K => K []
  | .t s :: r, K => match lk st.fr s with
    | some (.one a) => vres st r fun l => K (a :: l)
    | _ => False
  | .c s h n :: r, K => match lk st.fr s with
    | some (.one (.pt k off)) => match st.hp[k]? with
      | some ⟨_, .by hd N f⟩ => match h with
        | 0 => (hd.length ≤ off ∧ off + n ≤ N) ∧ vres st r fun l => K (.ag [] n (sh f off) :: l)
        | _ + 1 => (off = 0 ∧ n ≤ N) ∧ vres st r fun l => K (.ag hd n f :: l)
      | _ => False
    | _ => False
  | .c1 s :: r, K => match lk st.fr s with
    | some (.one (.pt k off)) => match st.hp[k]? with
      | some ⟨_, .vr a⟩ => off = 0 ∧ vres st r fun l => K (a :: l)
      | _ => False
    | _ => False

def chkRes (P : Program) : List ResultVar → List PRes → Bool
  | .tmp t :: r, .t s :: r' => t == s && chkRes P r r'
  | .cell a t :: r, .c s _ n :: r' => a == s && aggT P t == some n && chkRes P r r'
  | .cell a t :: r, .c1 s :: r' => a == s && oneT P t && chkRes P r r'
  | [], [] => true
  | _, _ => false

def chkFn (P : Program) (ρ : Nat → FuncId) (f : Nat) (pf : PF) : Bool := match P.funcs[ρ f]? with
  | some fn => Nat.ble pf.np pf.nt && fn.ntmps == pf.nt && chkRes P fn.results.toList pf.res && match fn.body with
    | some c => chkC P ρ pf.nt c pf.body
    | none => false
  | none => false

def resOf (tm : Array Value) : ResultVar → Sem Value
  | .tmp t => pure (tm.getD t undef)
  | .cell p t => do loadVar t (← asAddr (tm.getD p undef))
theorem asAddr_ptr (x : Addr) : asAddr (.pointer (some x)) = pure x := rfl

theorem run_vres {w : World} {σ : Nat → Nat} {a : Act} {st : St} {N : Nat} (hi : Inv ρ σ₀ H₀ w₀ N σ a w st) : ∀ {rs : List ResultVar} {pr : List PRes} {K : List At → Prop}, chkRes P rs pr = true → vres st pr K →
    ∃ l : List At, ((rs.mapM (m := Sem) (resOf a.tmps)).run P w = .ok (l.map (ren ρ σ)) w) ∧ K l ∧ l.length = pr.length ∧ ∀ b ∈ l, b.lt st.hp.length = true
  | [], [], K, _, hv => ⟨[], rfl, hv, rfl, by simp⟩
  | .tmp t :: r, .t s :: r', K, hc, hv => by
    simp only [chkRes, Bool.and_eq_true, beq_iff_eq] at hc
    obtain ⟨rfl, hc⟩ := hc
    simp only [vres] at hv
    split at hv
    · rename_i b hb
      obtain ⟨l, h1, h2, h3, h4⟩ := run_vres hi hc hv
      have e := hi.f.val _ _ hb
      have hl := hi.f.clo _ _ hb
      refine ⟨b :: l, ?_, h2, by simp [h3], ?_⟩
      · rw [List.mapM_cons]
        simp only [resOf, Sem.run_bind, Sem.run_pure, Result.andThen_ok, h1, List.map_cons]
        simp [e, renS]
      · intro c hc
        rcases List.mem_cons.1 hc with rfl | hc
        · exact hl
        · exact h4 c hc
    · exact hv.elim
  | .cell p t :: r, .c s h n :: r', K, hc, hv => by
    simp only [chkRes, Bool.and_eq_true, beq_iff_eq] at hc
    obtain ⟨⟨rfl, ht⟩, hc⟩ := hc
    simp only [vres] at hv
    split at hv
    · rename_i k off hb
      have e := hi.f.val _ _ hb
      split at hv
      · rename_i rr hd M f hk
        obtain ⟨T, hT⟩ := blk_of hi.s.h hk
        have main : ∀ (v : At) (g : Nat → Value), v.lt st.hp.length = true → (loadVar t ⟨σ k, off, none⟩).run P w = .ok (ren ρ σ v) w → vres st r' (fun l => K (v :: l)) → ∃ l : List At, (((ResultVar.cell p t :: r).mapM (m := Sem) (resOf a.tmps)).run P w = .ok (l.map (ren ρ σ)) w) ∧ K l ∧ l.length = (PRes.c p h n :: r').length ∧ ∀ b ∈ l, b.lt st.hp.length = true := by
          intro v g hvl hrun hv
          obtain ⟨l, h1, h2, h3, h4⟩ := run_vres hi hc hv
          refine ⟨v :: l, ?_, h2, by simp [h3], ?_⟩
          · rw [List.mapM_cons]
            have e' : a.tmps.getD p undef = .pointer (some ⟨σ k, off, none⟩) := by simp [e, renS, ren]
            simp only [resOf, Sem.run_bind, e', asAddr_ptr, Sem.run_pure, Result.andThen_ok, hrun, h1, List.map_cons]
          · intro c hc
            rcases List.mem_cons.1 hc with rfl | hc
            · exact hvl
            · exact h4 c hc
        split at hv
        · obtain ⟨⟨b1, b2⟩, hv⟩ := hv
          refine main (.ag [] n (sh f off)) (fun _ => undef) rfl ?_ hv
          have := run_loadAgg (P := P) (off := off) (g := fun j => cel [] (sh f off) j) ht hT (fun j hj => by
            rw [cellsB_by, cellsOf_get _ _ _ _ (by omega), cel_by (by omega), cel_by (by simp)]; rfl)
          rw [this]; rfl
        · obtain ⟨⟨rfl, b2⟩, hv⟩ := hv
          refine main (.ag hd n f) (fun _ => undef) rfl ?_ hv
          have := run_loadAgg (P := P) (off := 0) (g := fun j => cel hd f j) ht hT (fun j hj => by
            rw [cellsB_by, Nat.zero_add, cellsOf_get _ _ _ _ (by omega)])
          rw [this]; rfl
      · exact hv.elim
    · exact hv.elim
  | .cell p t :: r, .c1 s :: r', K, hc, hv => by
    simp only [chkRes, Bool.and_eq_true, beq_iff_eq] at hc
    obtain ⟨⟨rfl, ht⟩, hc⟩ := hc
    simp only [vres] at hv
    split at hv
    · rename_i k off hb
      have e := hi.f.val _ _ hb
      split at hv
      · rename_i rr v hk
        obtain ⟨T, hT⟩ := blk_of hi.s.h hk
        obtain ⟨rfl, hv⟩ := hv
        obtain ⟨l, h1, h2, h3, h4⟩ := run_vres hi hc hv
        have hcl := hi.s.h.clo k _ hk
        simp only [Bk.lt, Bool.and_eq_true] at hcl
        refine ⟨v :: l, ?_, h2, by simp [h3], ?_⟩
        · rw [List.mapM_cons]
          have e' : a.tmps.getD p undef = .pointer (some ⟨σ k, 0, none⟩) := by simp [e, renS, ren]
          have := run_loadOne (P := P) (off := 0) (v := ren ρ σ v) ht hT (by simp [cellsB])
          simp only [resOf, Sem.run_bind, e', asAddr_ptr, Sem.run_pure, Result.andThen_ok, this, h1, List.map_cons]
        · intro c hc
          rcases List.mem_cons.1 hc with rfl | hc
          · exact hcl.1
          · exact h4 c hc
      · exact hv.elim
    · exact hv.elim
  | [], _ :: _, _, hc, _ => by simp [chkRes] at hc
  | .tmp _ :: _, [], _, hc, _ => by simp [chkRes] at hc
  | .cell _ _ :: _, [], _, hc, _ => by simp [chkRes] at hc
  | .tmp _ :: _, .c _ _ _ :: _, _, hc, _ => by simp [chkRes] at hc
  | .tmp _ :: _, .c1 _ :: _, _, hc, _ => by simp [chkRes] at hc
  | .cell _ _ :: _, .t _ :: _, _, hc, _ => by simp [chkRes] at hc

/-- the picked blocks: those that were there, then ps -/
def pk (m : Nat) (ps : List Nat) (j : Nat) : Nat := match (List.range m ++ ps)[j]? with
  | some t => t
  | none => 0
def sel (T : Nat → Nat) (H : List Blk) : List Nat → List Blk → Prop
  | t :: ts, B :: Bs => H[t]? = some ⟨B.ro, mvb T B.c⟩ ∧ sel T H ts Bs
  | [], [] => True
  | _, _ => False
def pickOk (m : Nat) (ps : List Nat) : Bool := ps.all (fun t => Nat.ble m t) && nodupB ps
/-- what a call hands over: v and H', chosen out of what stands at the end -/
def fin (m : Nat) (st : St) (r v : Sv) (H' : List Blk) : Prop := ∃ ps : List Nat, r = mvs (pk m ps) v ∧ v.lt H'.length = true ∧ sel (pk m ps) st.hp (List.range m ++ ps) H' ∧ pickOk m ps = true ∧ H'.all (fun B => B.c.lt H'.length) = true

def isEnd : Ex → Bool
  | .norm => true
  | .ret => true
  | .exit _ => false

def entry (as : List At) : List (Nat × Sv) := (as.zipIdx).map fun p => (p.2, .one p.1)

def ents : Nat → List At → List (Nat × Sv)
  | _, [] => []
  | k, a :: r => (k, .one a) :: ents (k + 1) r

theorem ents_lk : ∀ {as : List At} {k s : Nat} {v : Sv}, lk (ents k as) s = some v → ∃ a, as[s - k]? = some a ∧ k ≤ s ∧ v = .one a
  | [], k, s, v, h => by simp [ents, lk] at h
  | a :: r, k, s, v, h => by
    simp only [ents, lk] at h
    split at h
    · rename_i e; subst e; cases h
      exact ⟨a, by simp, Nat.le_refl _, rfl⟩
    · obtain ⟨b, h1, h2, h3⟩ := ents_lk h
      refine ⟨b, ?_, by omega, h3⟩
      have : s - k = (s - (k + 1)) + 1 := by omega
      rw [this, List.getElem?_cons_succ]; exact h1

theorem sel_get {T : Nat → Nat} {H : List Blk} : ∀ {ts : List Nat} {Bs : List Blk} {j : Nat} {B : Blk}, sel T H ts Bs → Bs[j]? = some B → ∃ t, ts[j]? = some t ∧ H[t]? = some ⟨B.ro, mvb T B.c⟩
  | t :: ts, B0 :: Bs, 0, B, h, e => by
    simp at e; subst e
    exact ⟨t, rfl, h.1⟩
  | t :: ts, B0 :: Bs, j + 1, B, h, e => by
    rw [List.getElem?_cons_succ] at e ⊢
    exact sel_get h.2 e
  | [], [], _, _, _, e => by simp at e
  | [], _ :: _, _, _, h, _ => h.elim
  | _ :: _, [], _, _, h, _ => h.elim
theorem sel_len {T : Nat → Nat} {H : List Blk} : ∀ {ts : List Nat} {Bs : List Blk}, sel T H ts Bs → ts.length = Bs.length
  | [], [], _ => rfl
  | _ :: _, _ :: _, h => by simp [sel_len h.2]
  | [], _ :: _, h => h.elim
  | _ :: _, [], h => h.elim

theorem nodup_get {l : List Nat} {i j x : Nat} (h : l.Nodup) (h1 : l[i]? = some x) (h2 : l[j]? = some x) : i = j := by
  induction l generalizing i j with
  | nil => simp at h1
  | cons y r ih =>
    obtain ⟨hy, hr⟩ := List.nodup_cons.1 h
    cases i with
    | zero =>
      cases j with
      | zero => rfl
      | succ j =>
        simp only [List.getElem?_cons_zero, Option.some.injEq] at h1
        rw [List.getElem?_cons_succ] at h2
        subst h1
        exact (hy (List.mem_of_getElem? h2)).elim
    | succ i =>
      rw [List.getElem?_cons_succ] at h1
      cases j with
      | zero =>
        simp only [List.getElem?_cons_zero, Option.some.injEq] at h2
        subst h2
        exact (hy (List.mem_of_getElem? h1)).elim
      | succ j =>
        rw [List.getElem?_cons_succ] at h2
        rw [ih hr h1 h2]

theorem call_of_vc {f : Nat} {pf : PF} {as : List At} {H H' : List Blk} {v : Sv} (hfn : ∀ f, fnOk P (ρ f) = true) (hmo : P.follows .mixedOrders = true) (hc : chkFn P ρ f pf = true)
    (hn : as.length = pf.np) (hl : as.all (fun a => a.lt H.length) = true)
    (hv : vc P ρ H.length pf.body ⟨ents 0 as, H⟩ fun e st' => isEnd e = true ∧ vres st' pf.res fun l => fin H.length st' (mkS l) v H') : CallOK P ρ f as H v H' := by
  intro σ w hh
  unfold chkFn at hc
  split at hc
  · rename_i fn hf
    simp only [Bool.and_eq_true, beq_iff_eq] at hc
    obtain ⟨⟨⟨h1, h2⟩, h3⟩, h4⟩ := hc
    have h1 := Nat.le_of_ble_eq_true h1
    split at h4
    · rename_i c hb
      rw [List.all_eq_true] at hl
      refine calls_of_wp hf hb ?_
      have hsz : ((as.map (ren ρ σ)).toArray ++ Array.replicate (fn.ntmps - (as.map (ren ρ σ)).toArray.size) undef).size = pf.nt := by simp; omega
      have hi : Inv ρ σ H w pf.nt σ { tmps := (as.map (ren ρ σ)).toArray ++ Array.replicate (fn.ntmps - (as.map (ren ρ σ)).toArray.size) undef, defers := [] } w ⟨ents 0 as, H⟩ := by
        refine ⟨⟨?_, ?_⟩, Sp.refl hh, hsz, rfl⟩
        · intro s u hu
          obtain ⟨a, e1, -, rfl⟩ := ents_lk hu
          rw [Nat.sub_zero] at e1
          have hs := (List.getElem?_eq_some_iff.1 e1).1
          simp only
          rw [Array.getElem?_append_left (by simpa using hs)]
          simp [e1, renS]
        · intro s u hu
          obtain ⟨a, e1, -, rfl⟩ := ents_lk hu
          exact hl a (List.mem_of_getElem? e1)
      refine vc_sound hfn hmo (Nat.le_refl _) h4 hi hv ?_
      rintro e st' σ' a' w' ⟨he, hr⟩ hi'
      obtain ⟨l, r1, ⟨ps, q1, q2, q3, q4, q5⟩, r3, r4⟩ := run_vres (P := P) hi' h3 hr
      have hres : (results fn a'.tmps).run P w' = .ok (renS ρ σ' (mkS l)) w' := by
        have hdef : results fn a'.tmps = (do
            let vs ← fn.results.mapM (resOf a'.tmps)
            pure (if h : vs.size = 1 then vs[0] else .tuple vs)) := rfl
        rw [hdef]
        have : (fn.results.mapM (m := Sem) (resOf a'.tmps)).run P w' = .ok (l.map (ren ρ σ')).toArray w' := by
          rw [Array.mapM_eq_mapM_toList, Sem.run_map, r1]; rfl
        rw [Sem.run_bind, this]
        simp only [Result.andThen_ok, Sem.run_pure]
        congr 1
        match l with
        | [] => rfl
        | [x] => rfl
        | x :: y :: r => simp [mkS, renS]
      have hfin : (fun e w' => ∃ σ', e = Ending.returned (renS ρ σ' v) ∧ Sp ρ σ H w σ' H' w' ∧ v.lt H'.length = true) (.returned (renS ρ σ' (mkS l))) w' := by
        simp only [pickOk, Bool.and_eq_true, List.all_eq_true] at q4
        obtain ⟨p1, p2⟩ := q4
        have p2 := nodupB_spec p2
        have hlen := sel_len q3
        simp only [List.length_append, List.length_range] at hlen
        have hpk : ∀ j B, H'[j]? = some B → st'.hp[pk H.length ps j]? = some ⟨B.ro, mvb (pk H.length ps) B.c⟩ := by
          intro j B hB
          obtain ⟨t, e1, e2⟩ := sel_get q3 hB
          have : pk H.length ps j = t := by unfold pk; rw [e1]
          rw [this]; exact e2
        have hlo : ∀ j, j < H.length → pk H.length ps j = j := by
          intro j hj
          unfold pk
          rw [List.getElem?_append_left (by simpa using hj), List.getElem?_range hj]
        have hhi : ∀ j, H.length ≤ j → j < H'.length → ∃ t, ps[j - H.length]? = some t ∧ pk H.length ps j = t ∧ H.length ≤ t := by
          intro j h1 h2
          have : j - H.length < ps.length := by omega
          refine ⟨ps[j - H.length], List.getElem?_eq_getElem this, ?_, Nat.le_of_ble_eq_true (p1 _ (List.getElem_mem this))⟩
          unfold pk
          rw [List.getElem?_append_right (by simpa using h1), List.length_range, List.getElem?_eq_getElem this]
        have hinj : ∀ i j, i < H'.length → j < H'.length → i ≠ j → pk H.length ps i ≠ pk H.length ps j := by
          intro i j hi hj hij
          by_cases h1 : i < H.length <;> by_cases h2 : j < H.length
          · rw [hlo i h1, hlo j h2]; exact hij
          · obtain ⟨t, -, e2, e3⟩ := hhi j (by omega) hj
            rw [hlo i h1, e2]; omega
          · obtain ⟨t, -, e2, e3⟩ := hhi i (by omega) hi
            rw [hlo j h2, e2]; omega
          · obtain ⟨t, e1, e2, e3⟩ := hhi i (by omega) hi
            obtain ⟨t', e1', e2', e3'⟩ := hhi j (by omega) hj
            rw [e2, e2']
            intro e
            subst e
            have := nodup_get p2 e1 e1'
            omega
        have hq5 := List.all_eq_true.1 q5
        refine ⟨fun j => σ' (pk H.length ps j), ?_, ⟨⟨?_, ?_, ?_⟩, hi'.s.k, by omega, ?_, ?_, ?_⟩, q2⟩
        · rw [q1, renS_mvs]
        · intro k B hB
          obtain ⟨T, e⟩ := hi'.s.h.at_ _ _ (hpk k B hB)
          exact ⟨T, by rw [e, cellsB_mvb]⟩
        · intro j k B hjk hk hB hro
          have hj := (List.getElem?_eq_some_iff.1 hB).1
          have hk' : pk H.length ps k < st'.hp.length := by
            obtain ⟨B', hB'⟩ : ∃ B', H'[k]? = some B' := ⟨_, List.getElem?_eq_getElem hk⟩
            exact (List.getElem?_eq_some_iff.1 (hpk k B' hB')).1
          exact hi'.s.h.sep _ _ _ (hinj j k hj hk hjk) hk' (hpk j B hB) hro
        · intro k B hB
          exact hq5 B (List.mem_of_getElem? hB)
        · intro k hk
          show σ' (pk H.length ps k) = σ k
          rw [hlo k hk]; exact hi'.s.same k hk
        · intro k B B' e e'
          have hk := (List.getElem?_eq_some_iff.1 e).1
          have := hpk k B' e'
          rw [hlo k hk] at this
          have h5 := hi'.s.rof k B _ e this
          exact h5
        · intro k h1 h2
          obtain ⟨t, e1, e2, e3⟩ := hhi k h1 h2
          show w.heap.size ≤ σ' (pk H.length ps k)
          rw [e2]
          have hk' : t < st'.hp.length := by
            obtain ⟨B', hB'⟩ : ∃ B', H'[k]? = some B' := ⟨_, List.getElem?_eq_getElem h2⟩
            have := (List.getElem?_eq_some_iff.1 (hpk k B' hB')).1
            rw [e2] at this; exact this
          exact hi'.s.fresh t e3 hk'
      cases e with
      | norm => exact ⟨hi'.df, _, hres, hfin⟩
      | ret => exact ⟨hi'.df, _, hres, hfin⟩
      | exit id => cases he
    · cases h4
  · cases hc
end
end Hf
