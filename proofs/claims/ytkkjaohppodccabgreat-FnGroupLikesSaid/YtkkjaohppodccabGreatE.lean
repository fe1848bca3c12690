/- The engine, first half: a small language of states. -/
import Derived.Calls
import Derived.Orders
import Derived.Tactics
import Derived.Laws.Sem
import Derived.Laws.Tables
import Derived.Laws.Cells
import Derived.Laws.CopyRow
import Derived.Laws.Entries
import Derived.Laws.Rows
set_option linter.unusedVariables false
set_option linter.unusedSimpArgs false
/- The engine, part 1: values of the abstract state, blocks, and how they stand for the model's own. -/
namespace Hf
open Go
/-- bytes, by their place -/
abbrev By := Nat → UInt8

/-- one cell of a value of words, truth values and empty slices -/
inductive C1 where
 | i (n : Int)
 | b (x : Bool)
 | sn
 deriving Inhabited, DecidableEq

/-- atoms -/
inductive At where
 | i (k : IntKind) (n : Int)
 | u (x : UInt8)
 | b (x : Bool)
 | ag (hd : List Int) (n : Nat) (f : By)
 | pt (k off : Nat)
 | np
 | sl (k off len cap : Nat)
 | sn
 | fn (f : Nat) (first caps : List (Nat × Nat))
 | ac (l : List C1)
 deriving Inhabited

def C1.at : C1 → At
  | .i n => .i .i64 n
  | .b x => .b x
  | .sn => .sn
def renC : C1 → Value
  | .i n => .int .i64 n
  | .b x => .bool x
  | .sn => .slice none 0 0

/-- what a slot holds -/
inductive Sv where
 | one (a : At)
 | tup (l : List At)
 | rc (l : List At)
 deriving Inhabited

/-- what a block holds -/
inductive Bk where
 | by (hd : List Int) (n : Nat) (f : By)
 | vr (a : At)
 | rw (l : List At)
 | gs (esz : Nat) (l : List (List Int × By))
 | fo (cs : Array Value) (fz : Nat × Nat)
 deriving Inhabited

/-- the cells of a block that may not be written; only those of foreign blocks -/
def frz : Bk → Nat × Nat
  | .fo _ fz => fz
  | _ => (0, 0)

structure Blk where
 ro : Bool
 c : Bk
 deriving Inhabited

/-- one cell: the first are numbers, the others bytes -/
def cel (hd : List Int) (f : By) (x : Nat) : Value :=
  match hd[x]? with
  | some z => .int .i64 z
  | none => .int .u8 ((f x).toNat : Int)

def cellsOf (hd : List Int) (n : Nat) (f : By) : Array Value := ((List.range n).map (cel hd f)).toArray

/-- parts of esz cells each, one behind the other -/
def gcel (esz : Nat) (l : List (List Int × By)) (x : Nat) : Value := match l[x / esz]? with
  | some q => cel q.1 q.2 (x % esz)
  | none => .int .u8 0
def gcells (esz : Nat) (l : List (List Int × By)) : Array Value := ((List.range (l.length * esz)).map (gcel esz l)).toArray
theorem gcells_size (esz : Nat) (l : List (List Int × By)) : (gcells esz l).size = l.length * esz := by simp [gcells]
theorem gcells_get (esz : Nat) (l : List (List Int × By)) (x : Nat) (h : x < l.length * esz) : (gcells esz l)[x]? = some (gcel esz l x) := by
 simp [gcells, h]
theorem gcells_in (esz : Nat) (l : List (List Int × By)) (j x : Nat) (q : List Int × By) (h : l[j]? = some q) (hx : x < esz) : (gcells esz l)[j * esz + x]? = some (cel q.1 q.2 x) := by
 have hj := (List.getElem?_eq_some_iff.1 h).1
 have h1 : (j + 1) * esz ≤ l.length * esz := Nat.mul_le_mul_right _ hj
 rw [Nat.add_mul, Nat.one_mul] at h1
 rw [gcells_get _ _ _ (by omega)]
 have e1 : (j * esz + x) / esz = j := by
  rw [Nat.mul_comm, Nat.mul_add_div (by omega), Nat.div_eq_of_lt hx, Nat.add_zero]
 have e2 : (j * esz + x) % esz = x := by
  rw [Nat.mul_comm, Nat.mul_add_mod, Nat.mod_eq_of_lt hx]
 rw [gcel, e1, e2, h]

theorem cellsOf_size (hd : List Int) (n : Nat) (f : By) : (cellsOf hd n f).size = n := by simp [cellsOf]
theorem cellsOf_get (hd : List Int) (n : Nat) (f : By) (x : Nat) (h : x < n) : (cellsOf hd n f)[x]? = some (cel hd f x) := by
 simp [cellsOf, h]
theorem cel_hd {hd : List Int} {f : By} {x : Nat} {z : Int} (h : hd[x]? = some z) : cel hd f x = .int .i64 z := by simp [cel, h]
theorem cel_by {hd : List Int} {f : By} {x : Nat} (h : hd.length ≤ x) : cel hd f x = .int .u8 ((f x).toNat : Int) := by
 simp [cel, List.getElem?_eq_none h]

section
variable (ρ : Nat → FuncId) (σ : Nat → Nat)
def pv (p : Nat × Nat) : Value := .pointer (some ⟨σ p.1, p.2, none⟩)

def ren : At → Value
  | .i k n => .int k n
  | .u x => .int .u8 (x.toNat : Int)
  | .b x => .bool x
  | .ag hd n f => .agg (cellsOf hd n f)
  | .pt k off => .pointer (some ⟨σ k, off, none⟩)
  | .np => .pointer none
  | .sl k off len cap => .slice (some ⟨σ k, off, none⟩) len cap
  | .sn => .slice none 0 0
  | .fn f first caps => .func (.func (ρ f)) (first.map (pv σ)).toArray (caps.map (pv σ)).toArray
  | .ac l => .agg (l.map renC).toArray

theorem ren_at (c : C1) : ren ρ σ c.at = renC c := by cases c <;> rfl

def renS : Sv → Value
  | .one a => ren ρ σ a
  | .tup l => .tuple (l.map (ren ρ σ)).toArray
  | .rc l => .agg (l.map (ren ρ σ)).toArray

def cellsB : Bk → Array Value
  | .by hd n f => cellsOf hd n f
  | .vr a => #[ren ρ σ a]
  | .rw l => (l.map (ren ρ σ)).toArray
  | .gs esz l => gcells esz l
  | .fo cs _ => cs
end
/-- the blocks that are named lie below m -/
def At.lt (m : Nat) : At → Bool
  | .pt k _ => decide (k < m)
  | .sl k _ _ _ => decide (k < m)
  | .fn _ first caps => first.all (fun p => decide (p.1 < m)) && caps.all (fun p => decide (p.1 < m))
  | _ => true
def Sv.lt (m : Nat) : Sv → Bool
  | .one a => a.lt m
  | .tup l => l.all (·.lt m)
  | .rc l => l.all (·.lt m)
/-- an atom of one cell -/
def At.cell1 : At → Bool
  | .ag _ _ _ => false
  | .ac _ => false
  | _ => true
def Bk.lt (m : Nat) : Bk → Bool
  | .by _ _ _ => true
  | .gs _ _ => true
  | .fo _ _ => true
  | .vr a => a.lt m && a.cell1
  | .rw l => l.all (fun a => a.lt m && a.cell1)

theorem At.lt_mono {m m' : Nat} (h : m ≤ m') : ∀ {a : At}, a.lt m = true → a.lt m' = true
  | .pt k _, e => by simp [At.lt] at *; omega
  | .sl k _ _ _, e => by simp [At.lt] at *; omega
  | .fn _ first caps, e => by
    simp only [At.lt, Bool.and_eq_true, List.all_eq_true, decide_eq_true_eq] at *
    exact ⟨fun p hp => Nat.lt_of_lt_of_le (e.1 p hp) h, fun p hp => Nat.lt_of_lt_of_le (e.2 p hp) h⟩
  | .i _ _, _ | .u _, _ | .b _, _ | .ag _ _ _, _ | .np, _ | .sn, _ | .ac _, _ => rfl
theorem Sv.lt_mono {m m' : Nat} (h : m ≤ m') : ∀ {a : Sv}, a.lt m = true → a.lt m' = true
  | .one _, e => At.lt_mono h e
  | .tup l, e | .rc l, e => by
    simp only [Sv.lt, List.all_eq_true] at *
    exact fun a ha => At.lt_mono h (e a ha)
theorem Bk.lt_mono {m m' : Nat} (h : m ≤ m') : ∀ {a : Bk}, a.lt m = true → a.lt m' = true
  | .by _ _ _, _ => rfl
  | .gs _ _, _ => rfl
  | .fo _ _, _ => rfl
  | .vr a, e => by simp only [Bk.lt, Bool.and_eq_true] at *; exact ⟨At.lt_mono h e.1, e.2⟩
  | .rw l, e => by
    simp only [Bk.lt, List.all_eq_true, Bool.and_eq_true] at *
    exact fun a ha => ⟨At.lt_mono h (e a ha).1, (e a ha).2⟩

section
variable {ρ : Nat → FuncId} {σ σ' : Nat → Nat} {m : Nat}
theorem ren_congr (h : ∀ k, k < m → σ' k = σ k) : ∀ {a : At}, a.lt m = true → ren ρ σ' a = ren ρ σ a
  | .pt k _, e => by simp [At.lt] at e; simp [ren, h k e]
  | .sl k _ _ _, e => by simp [At.lt] at e; simp [ren, h k e]
  | .fn _ first caps, e => by
    simp only [At.lt, Bool.and_eq_true, List.all_eq_true, decide_eq_true_eq] at e
    simp only [ren]
    have h1 : first.map (pv σ') = first.map (pv σ) := List.map_congr_left fun p hp => by simp [pv, h _ (e.1 p hp)]
    have h2 : caps.map (pv σ') = caps.map (pv σ) := List.map_congr_left fun p hp => by simp [pv, h _ (e.2 p hp)]
    rw [h1, h2]
  | .i _ _, _ | .u _, _ | .b _, _ | .ag _ _ _, _ | .np, _ | .sn, _ | .ac _, _ => rfl
theorem renS_congr (h : ∀ k, k < m → σ' k = σ k) : ∀ {a : Sv}, a.lt m = true → renS ρ σ' a = renS ρ σ a
  | .one _, e => ren_congr h e
  | .tup l, e | .rc l, e => by
    simp only [Sv.lt, List.all_eq_true] at e
    simp only [renS]
    rw [List.map_congr_left fun a ha => ren_congr h (e a ha)]
theorem cellsB_congr (h : ∀ k, k < m → σ' k = σ k) : ∀ {a : Bk}, a.lt m = true → cellsB ρ σ' a = cellsB ρ σ a
  | .by _ _ _, _ => rfl
  | .gs _ _, _ => rfl
  | .fo _ _, _ => rfl
  | .vr a, e => by simp only [Bk.lt, Bool.and_eq_true] at e; simp only [cellsB]; rw [ren_congr h e.1]
  | .rw l, e => by
    simp only [Bk.lt, List.all_eq_true, Bool.and_eq_true] at e
    simp only [cellsB]
    rw [List.map_congr_left fun a ha => ren_congr h (e a ha).1]
end
/-- the first that stands for a slot -/
def lk : List (Nat × Sv) → Nat → Option Sv
  | [], _ => none
  | (s, v) :: r, t => if s = t then some v else lk r t

structure St where
 fr : List (Nat × Sv)
 hp : List Blk

/-! ### the abstract state and the model's -/
structure HRel (ρ : Nat → FuncId) (σ : Nat → Nat) (w : World) (H : List Blk) : Prop where
 at_ : ∀ (k : Nat) (B : Blk), H[k]? = some B → ∃ T, w.heap[σ k]? = some (.cells (cellsB ρ σ B.c) T (frz B.c))
 sep : ∀ (j k : Nat) (B : Blk), j ≠ k → k < H.length → H[j]? = some B → B.ro = false → σ j ≠ σ k
 clo : ∀ (k : Nat) (B : Blk), H[k]? = some B → B.c.lt H.length = true

structure FRel (ρ : Nat → FuncId) (σ : Nat → Nat) (tm : Array Value) (fr : List (Nat × Sv)) (m : Nat) : Prop where
 val : ∀ s v, lk fr s = some v → tm[s]? = some (renS ρ σ v)
 clo : ∀ s v, lk fr s = some v → v.lt m = true

/-- what is kept of the world in which the call began -/
structure Kp (σ₀ : Nat → Nat) (H₀ : List Blk) (w₀ w : World) : Prop where
 os : w.os = w₀.os
 tape : w.tape = w₀.tape
 output : w.output = w₀.output
 size : w₀.heap.size ≤ w.heap.size
 old : ∀ b, b < w₀.heap.size → (∀ (k : Nat) (B : Blk), H₀[k]? = some B → B.ro = false → b ≠ σ₀ k) → w.heap[b]? = w₀.heap[b]?

/-- one step of the world: σ, H, w before; σ', H', w' behind -/
structure Sp (ρ : Nat → FuncId) (σ : Nat → Nat) (H : List Blk) (w : World) (σ' : Nat → Nat) (H' : List Blk) (w' : World) : Prop where
 h : HRel ρ σ' w' H'
 k : Kp σ H w w'
 len : H.length ≤ H'.length
 same : ∀ k, k < H.length → σ' k = σ k
 rof : ∀ (k : Nat) (B B' : Blk), H[k]? = some B → H'[k]? = some B' → B'.ro = B.ro
 fresh : ∀ k, H.length ≤ k → k < H'.length → w.heap.size ≤ σ' k

theorem HRel.lt {ρ : Nat → FuncId} {σ : Nat → Nat} {w : World} {H : List Blk} (h : HRel ρ σ w H) {k : Nat} (hk : k < H.length) : σ k < w.heap.size := by
 obtain ⟨T, e⟩ := h.at_ k H[k] (by simp [hk])
 exact (Array.getElem?_eq_some_iff.1 e).1

theorem Kp.refl (σ : Nat → Nat) (H : List Blk) (w : World) : Kp σ H w w := ⟨rfl, rfl, rfl, Nat.le_refl _, fun _ _ _ => rfl⟩

theorem Sp.refl {ρ : Nat → FuncId} {σ : Nat → Nat} {H : List Blk} {w : World} (h : HRel ρ σ w H) : Sp ρ σ H w σ H w :=
 ⟨h, Kp.refl _ _ _, Nat.le_refl _, fun _ _ => rfl, fun _ _ _ e e' => by rw [e] at e'; cases e'; rfl, fun _ h1 h2 => by omega⟩

theorem Sp.trans {ρ : Nat → FuncId} {σ σ1 σ2 : Nat → Nat} {H H1 H2 : List Blk} {w w1 w2 : World} (h1 : Sp ρ σ H w σ1 H1 w1) (h2 : Sp ρ σ1 H1 w1 σ2 H2 w2) : Sp ρ σ H w σ2 H2 w2 where
 h := h2.h
 k := {
  os := h2.k.os.trans h1.k.os
  tape := h2.k.tape.trans h1.k.tape
  output := h2.k.output.trans h1.k.output
  size := Nat.le_trans h1.k.size h2.k.size
  old := fun b hb hn => by
   rw [h2.k.old b (Nat.lt_of_lt_of_le hb h1.k.size) (fun k B hB hro => ?_)]
   ·exact h1.k.old b hb hn
   ·by_cases hk : k < H.length
    ·rw [h1.same k hk]
     have e : H[k]? = some H[k] := by simp [hk]
     exact hn k _ e (by rw [← h1.rof k _ _ e hB]; exact hro)
    ·have hlt : k < H1.length := (List.getElem?_eq_some_iff.1 hB).1
     have := h1.fresh k (by omega) hlt
     omega }
 len := Nat.le_trans h1.len h2.len
 same := fun k hk => (h2.same k (Nat.lt_of_lt_of_le hk h1.len)).trans (h1.same k hk)
 rof := fun k B B' e e' => by
  have hk : k < H.length := (List.getElem?_eq_some_iff.1 e).1
  have hk1 : k < H1.length := Nat.lt_of_lt_of_le hk h1.len
  have e1 : H1[k]? = some H1[k] := by simp [hk1]
  rw [h2.rof k _ _ e1 e', h1.rof k _ _ e e1]
 fresh := fun k hk hk' => by
  by_cases hk1 : k < H1.length
  ·rw [h2.same k hk1]; exact h1.fresh k hk hk1
  ·exact Nat.le_trans h1.k.size (h2.fresh k (by omega) hk')

/-- all of it. σ₀, H₀, w₀: as the call began -/
structure Inv (ρ : Nat → FuncId) (σ₀ : Nat → Nat) (H₀ : List Blk) (w₀ : World) (N : Nat) (σ : Nat → Nat) (a : Act) (w : World) (st : St) : Prop where
 f : FRel ρ σ a.tmps st.fr st.hp.length
 s : Sp ρ σ₀ H₀ w₀ σ st.hp w
 sz : a.tmps.size = N
 df : a.defers = []

/-! ### writing bytes -/
def sh (f : By) (o : Nat) : By := fun x => f (o + x)
def upd (f : By) (o : Nat) (v : UInt8) : By := fun x => if x = o then v else f x
def spl (f : By) (o n : Nat) (g : By) : By := fun x => if o ≤ x ∧ x < o + n then g (x - o) else f x

@[simp] theorem sh_app (f : By) (o x : Nat) : sh f o x = f (o + x) := rfl
theorem upd_same (f : By) (o : Nat) (v : UInt8) : upd f o v o = v := by simp [upd]
theorem upd_ne (f : By) (o x : Nat) (v : UInt8) (h : x ≠ o) : upd f o v x = f x := by simp [upd, h]

/-- the model's wrap, under a name of its own -/
def w64 (n : Int) : Int := IntKind.i64.wrap n
theorem w64_id (n : Int) (h0 : -9223372036854775808 ≤ n) (h1 : n ≤ 9223372036854775807) : w64 n = n := by
 simp only [w64, IntKind.wrap, IntKind.bits, IntKind.signed]
 simp
 omega
/-- a number as a byte -/
def byt (n : Int) : UInt8 := UInt8.ofNat (n % 256).toNat
theorem byt_toNat (n : Int) : ((byt n).toNat : Int) = n % 256 := by
 simp only [byt, UInt8.toNat_ofNat']
 have h0 : 0 ≤ n % 256 := Int.emod_nonneg _ (by decide)
 have h1 : n % 256 < 256 := Int.emod_lt_of_pos _ (by decide)
 have : (n % 256).toNat % 2 ^ 8 = (n % 256).toNat := Nat.mod_eq_of_lt (by omega)
 rw [this]
 omega
theorem wrap_u8 (n : Int) : IntKind.u8.wrap n = ((byt n).toNat : Int) := by
 rw [byt_toNat]
 simp [IntKind.wrap, IntKind.bits, IntKind.signed]
theorem toNat_le (x : UInt8) : x.toNat ≤ 255 := by have := x.toNat_lt; omega

end Hf
/- The engine, part 2: operations of the abstract state, and the check of an operation against the model's own. -/
namespace Hf
open Go
inductive Ar where
 | t (s : Nat)
 | c (a : At)
 deriving Inhabited

def ev (fr : List (Nat × Sv)) : Ar → Option Sv
  | .t s => lk fr s
  | .c a => some (.one a)

def evo (fr : List (Nat × Sv)) (d : Int) : Option Ar → Option Sv
  | none => some (.one (.i .i64 d))
  | some x => ev fr x

/-- what a new variable holds -/
inductive Zk where
 | by (h n : Nat)
 | i | u | b | np | sn
 deriving Inhabited
def Zk.bk : Zk → Bk
  | .by h n => .by (List.replicate h 0) n (fun _ => 0)
  | .i => .vr (.i .i64 0)
  | .u => .vr (.u 0)
  | .b => .vr (.b false)
  | .np => .vr .np
  | .sn => .vr .sn

inductive PO where
 | mov (x : Ar)
 | pick (c x y : Ar)
 | alo (z : Zk)
 | box (x : Ar)
 | bld (h n : Nat) (ps : List (Nat × Nat × Ar))
 | lda (x : Ar) (h n : Nat)
 | ld8 (x : Ar)
 | ld1 (x : Ar)
 | sta (x v : Ar) (n : Nat)
 | st8 (x v : Ar)
 | st1 (x v : Ar)
 | nck (x : Ar)
 | bin (op : BinOp) (x y : Ar)
 | nt (x : Ar)
 | ng (x : Ar)
 | eqa (neg : Bool) (n : Nat) (x y : Ar)
 | eqn (neg : Bool) (x : Ar)
 | eqb (neg : Bool) (x y : Ar)
 | cvt (k : IntKind) (x : Ar)
 | mkf (f : Nat) (first caps : List Ar)
 | add (x : Ar) (c : Nat)
 | idx (x i : Ar) (len esz : Nat)
 | ids (x i : Ar) (esz : Nat)
 | ixb (x i : Ar) (len : Nat)
 | ixa (x i : Ar) (len esz : Nat)
 | ext (x : Ar) (j : Nat)
 | call (f : Nat) (as : List Ar)
 | calv (x : Ar) (as : List Ar)
 | len (x : Ar)
 | slc (x : Ar) (lo hi : Option Ar) (esz : Nat)
 | bsa (xs : List Ar)
 | bsb (esz : Nat) (xs : List Ar)
 | bsh (h esz : Nat) (xs : List Ar)
 deriving Inhabited

/-! ### calls -/
def CallOK (P : Program) (ρ : Nat → FuncId) (f : Nat) (as : List At) (H : List Blk) (v : Sv) (H' : List Blk) : Prop :=
 ∀ (σ : Nat → Nat) (w : World), HRel ρ σ w H →
  Calls P (ρ f) (as.map (ren ρ σ)).toArray w fun e w' => ∃ σ', e = .returned (renS ρ σ' v) ∧ Sp ρ σ H w σ' H' w' ∧ v.lt H'.length = true

/-- a call whose result and blocks are told by a relation -/
def CallR (P : Program) (ρ : Nat → FuncId) (f : Nat) (as : List At) (H : List Blk) (Q : Sv → List Blk → Prop) : Prop :=
 ∀ (σ : Nat → Nat) (w : World), HRel ρ σ w H →
  Calls P (ρ f) (as.map (ren ρ σ)).toArray w fun e w' => ∃ v H' σ', Q v H' ∧ e = .returned (renS ρ σ' v) ∧ Sp ρ σ H w σ' H' w' ∧ v.lt H'.length = true

def mvp (T : Nat → Nat) (p : Nat × Nat) : Nat × Nat := (T p.1, p.2)
def mva (T : Nat → Nat) : At → At
  | .pt k off => .pt (T k) off
  | .sl k off len cap => .sl (T k) off len cap
  | .fn f first caps => .fn f (first.map (mvp T)) (caps.map (mvp T))
  | a => a
def mvs (T : Nat → Nat) : Sv → Sv
  | .one a => .one (mva T a)
  | .tup l => .tup (l.map (mva T))
  | .rc l => .rc (l.map (mva T))
def mvb (T : Nat → Nat) : Bk → Bk
  | .by hd n f => .by hd n f
  | .vr a => .vr (mva T a)
  | .rw l => .rw (l.map (mva T))
  | .gs esz l => .gs esz l
  | .fo cs fz => .fo cs fz

/-- the callee's numbers of blocks as the caller's -/
def tau (τ : List Nat) (m : Nat) (k : Nat) : Nat := match τ[k]? with
  | some t => t
  | none => m + (k - τ.length)

/-- the callee's blocks are the caller's -/
def emb (T : Nat → Nat) (H : List Blk) : List Nat → List Blk → Prop
  | t :: ts, B :: Bs => (∃ r, H[t]? = some ⟨r, mvb T B.c⟩ ∧ (B.ro = false → r = false)) ∧ emb T H ts Bs
  | [], [] => True
  | _, _ => False
/-- what may be written is met once -/
def apart : List Nat → List Blk → Bool
  | t :: ts, B :: Bs => (ts.zip Bs).all (fun p => (B.ro && p.2.ro) || p.1 != t) && apart ts Bs
  | _, _ => true
def back (T : Nat → Nat) : List Nat → List Blk → List Blk → List Blk → List Blk
  | t :: ts, B :: Bs, B' :: Bs', H => back T ts Bs Bs' (if B.ro then H else H.set t ⟨false, mvb T B'.c⟩)
  | _, _, _, H => H

def vcall (P : Program) (ρ : Nat → FuncId) (H : List Blk) (f : Nat) (args : List At) (K : Sv → List Blk → Prop) : Prop :=
 ∃ (m : Nat) (τ : List Nat) (as : List At) (Hc : List Blk) (v : Sv) (Hc' H' : List Blk), H.length = m ∧ CallOK P ρ f as Hc v Hc' ∧
  args = as.map (mva (tau τ m)) ∧ emb (tau τ m) H τ Hc ∧ apart τ Hc = true ∧
  back (tau τ m) τ Hc Hc' H ++ (Hc'.drop Hc.length).map (fun B => ⟨B.ro, mvb (tau τ m) B.c⟩) = H' ∧
  K (mvs (tau τ m) v) H'

def vcallR (P : Program) (ρ : Nat → FuncId) (H : List Blk) (f : Nat) (args : List At) (K : Sv → List Blk → Prop) : Prop :=
 ∃ (m : Nat) (τ : List Nat) (as : List At) (Hc : List Blk) (Q : Sv → List Blk → Prop), H.length = m ∧ CallR P ρ f as Hc Q ∧
  args = as.map (mva (tau τ m)) ∧ emb (tau τ m) H τ Hc ∧ apart τ Hc = true ∧
  ∀ v Hc', Q v Hc' → K (mvs (tau τ m) v) (back (tau τ m) τ Hc Hc' H ++ (Hc'.drop Hc.length).map (fun B => ⟨B.ro, mvb (tau τ m) B.c⟩))

/-! ### operations -/
def eqB (n : Nat) (f g : By) : Bool := (List.range n).all fun x => f x == g x

def vbin (op : BinOp) (K : Sv → Prop) : Option Sv → Option Sv → Prop
  | some (.one (.i .i64 m)), some (.one (.i .i64 n)) => match op with
    | .add => ∃ z, w64 (m + n) = z ∧ K (.one (.i .i64 z))
    | .sub => ∃ z, w64 (m - n) = z ∧ K (.one (.i .i64 z))
    | .mul => ∃ z, w64 (m * n) = z ∧ K (.one (.i .i64 z))
    | .quo => n ≠ 0 ∧ ∃ z, w64 (m.tdiv n) = z ∧ K (.one (.i .i64 z))
    | .rem => n ≠ 0 ∧ ∃ z, m.tmod n = z ∧ K (.one (.i .i64 z))
    | .eql => K (.one (.b (m == n)))
    | .neq => K (.one (.b (m != n)))
    | .lss => K (.one (.b (decide (m < n))))
    | .leq => K (.one (.b (decide (m ≤ n))))
    | .gtr => K (.one (.b (decide (m > n))))
    | .geq => K (.one (.b (decide (m ≥ n))))
    | _ => False
  | some (.one (.u x)), some (.one (.u y)) => match op with
    | .eql => K (.one (.b (x == y)))
    | .neq => K (.one (.b (x != y)))
    | _ => False
  | _, _ => False

def atoms : List (Option Sv) → Option (List At)
  | [] => some []
  | some (.one a) :: r => match atoms r with
    | some l => some (a :: l)
    | none => none
  | _ :: _ => none
def ptrs : List (Option Sv) → Option (List (Nat × Nat))
  | [] => some []
  | some (.one (.pt k o)) :: r => match ptrs r with
    | some l => some ((k, o) :: l)
    | none => none
  | _ :: _ => none

/-- a branch on a truth value -/
structure brB (b : Bool) (k : Bool → Prop) : Prop where
 t : b = true → k true
 f : b = false → k false
theorem brB_intro {b : Bool} {k : Bool → Prop} (ht : b = true → k true) (hf : b = false → k false) : brB b k := ⟨ht, hf⟩
theorem brB_elim {b : Bool} {k : Bool → Prop} (h : brB b k) : k b := by
 cases b
 ·exact h.f rfl
 ·exact h.t rfl
theorem brB_t {k : Bool → Prop} (h : k true) : brB true k := ⟨fun _ => h, nofun⟩
theorem brB_f {k : Bool → Prop} (h : k false) : brB false k := ⟨nofun, fun _ => h⟩

/-- parts laid into a value of h numbers and n cells in all -/
def lay (fr : List (Nat × Sv)) (K : Sv → Prop) (n : Nat) : List (Nat × Nat × Ar) → List Int → By → Prop
  | [], hd, f => K (.one (.ag hd n f))
  | (off, sz, x) :: r, hd, f => match ev fr x with
    | some (.one (.i .i64 z)) => match Nat.blt off hd.length && Nat.beq sz 1 with
      | true => lay fr K n r (hd.set off z) f
      | false => False
    | some (.one (.u v)) => match Nat.ble hd.length off && Nat.blt off n && Nat.beq sz 1 with
      | true => lay fr K n r hd (upd f off v)
      | false => False
    | some (.one (.ag [] m g)) => match Nat.ble hd.length off && Nat.ble (off + m) n && Nat.beq sz m with
      | true => lay fr K n r hd (spl f off m g)
      | false => False
    | _ => False

def layb (fr : List (Nat × Sv)) (K : By → Prop) (esz : Nat) : List Ar → Nat → By → Prop
  | [], _, f => K f
  | x :: r, j, f => match ev fr x with
    | some (.one (.ag [] m g)) => match Nat.beq m esz with
      | true => layb fr K esz r (j + 1) (spl f (j * esz) m g)
      | false => False
    | _ => False

def hdsL (esz : Nat) : List (Option Sv) → Option (List (List Int × By))
  | [] => some []
  | some (.one (.ag hd m g)) :: r => match Nat.beq m esz, hdsL esz r with
    | true, some l => some ((hd, g) :: l)
    | _, _ => none
  | _ :: _ => none

section
variable (P : Program) (ρ : Nat → FuncId)
def vop (fr : List (Nat × Sv)) (H : List Blk) (o : PO) (K : Sv → List Blk → Prop) : Prop :=
  match o with
  | .mov x => match ev fr x with
    | some v => K v H
    | none => False
  | .pick c x y => match ev fr c with
    | some (.one (.b c)) => brB c fun c => match (if c then ev fr x else ev fr y) with
      | some v => K v H
      | none => False
    | _ => False
  | .alo z => ∃ m, H.length = m ∧ K (.one (.pt m 0)) (H ++ [⟨false, z.bk⟩])
  | .box x => match ev fr x with
    | some (.one (.ag hd n f)) => ∃ m, H.length = m ∧ K (.one (.pt m 0)) (H ++ [⟨false, .by hd n f⟩])
    | some (.one (.ac _)) => False
    | some (.one a) => ∃ m, H.length = m ∧ K (.one (.pt m 0)) (H ++ [⟨false, .vr a⟩])
    | _ => False
  | .bld h n ps => lay fr (fun v => K v H) n ps (List.replicate h 0) (fun _ => 0)
  | .lda x h n => match ev fr x with
    | some (.one (.pt k off)) => match H[k]? with
      | some ⟨_, .by hd N f⟩ => match h with
        | 0 => (hd.length ≤ off ∧ off + n ≤ N) ∧ K (.one (.ag [] n (sh f off))) H
        | _ + 1 => match off with
          | 0 => match Nat.ble n N with
            | true => K (.one (.ag hd n f)) H
            | false => False
          | _ + 1 => False
      | some ⟨_, .gs esz l⟩ => ∃ j hd f, off = j * esz ∧ l[j]? = some (hd, f) ∧ n ≤ esz ∧ K (.one (.ag hd n f)) H
      | _ => False
    | _ => False
  | .ld8 x => match ev fr x with
    | some (.one (.pt k off)) => match H[k]? with
      | some ⟨_, .by hd N f⟩ => (hd.length ≤ off ∧ off < N) ∧ K (.one (.u (f off))) H
      | _ => False
    | _ => False
  | .ld1 x => match ev fr x with
    | some (.one (.pt k off)) => match H[k]? with
      | some ⟨_, .by hd N _⟩ => match Nat.blt off N with
        | true => match hd[off]? with
          | some z => K (.one (.i .i64 z)) H
          | none => False
        | false => False
      | some ⟨_, .vr a⟩ => match off with
        | 0 => K (.one a) H
        | _ + 1 => False
      | some ⟨_, .rw l⟩ => ∃ a, l[off]? = some a ∧ K (.one a) H
      | _ => False
    | _ => False
  | .sta x v n => match ev fr x, ev fr v with
    | some (.one (.pt k off)), some (.one (.ag hd' m g)) => match H[k]? with
      | some ⟨false, .by hd N f⟩ => match hd' with
        | [] => (m = n ∧ hd.length ≤ off ∧ off + n ≤ N) ∧ K (.tup []) (H.set k ⟨false, .by hd N (spl f off n g)⟩)
        | z :: zs => match off with
          | 0 => match Nat.beq m n && Nat.beq n N && Nat.beq (z :: zs).length hd.length with
            | true => K (.tup []) (H.set k ⟨false, .by (z :: zs) N g⟩)
            | false => False
          | _ + 1 => False
      | _ => False
    | _, _ => False
  | .st8 x v => match ev fr x, ev fr v with
    | some (.one (.pt k off)), some (.one (.u c)) => match H[k]? with
      | some ⟨false, .by hd N f⟩ => (hd.length ≤ off ∧ off < N) ∧ K (.tup []) (H.set k ⟨false, .by hd N (upd f off c)⟩)
      | _ => False
    | _, _ => False
  | .st1 x v => match ev fr x, ev fr v with
    | some (.one (.pt k off)), some (.one a) => match H[k]? with
      | some ⟨false, .by hd N f⟩ => match a with
        | .i .i64 z => match Nat.blt off hd.length && Nat.blt off N with
          | true => K (.tup []) (H.set k ⟨false, .by (hd.set off z) N f⟩)
          | false => False
        | _ => False
      | some ⟨false, .vr _⟩ => match off, a.cell1 with
        | 0, true => K (.tup []) (H.set k ⟨false, .vr a⟩)
        | _, _ => False
      | some ⟨false, .rw l⟩ => (off < l.length ∧ a.cell1 = true) ∧ K (.tup []) (H.set k ⟨false, .rw (l.set off a)⟩)
      | _ => False
    | _, _ => False
  | .nck x => match ev fr x with
    | some (.one (.pt k off)) => K (.one (.pt k off)) H
    | _ => False
  | .bin op x y => vbin op (fun v => K v H) (ev fr x) (ev fr y)
  | .nt x => match ev fr x with
    | some (.one (.b b)) => K (.one (.b (!b))) H
    | _ => False
  | .ng x => match ev fr x with
    | some (.one (.i .i64 n)) => ∃ z, w64 (-n) = z ∧ K (.one (.i .i64 z)) H
    | _ => False
  | .eqa neg n x y => match ev fr x, ev fr y with
    | some (.one (.ag [] m f)), some (.one (.ag [] m' g)) => match Nat.beq m n && Nat.beq m' n with
      | true => K (.one (.b (match neg with | true => !eqB n f g | false => eqB n f g))) H
      | false => False
    | _, _ => False
  | .eqb neg x y => match ev fr x, ev fr y with
    | some (.one (.b p)), some (.one (.b q)) => K (.one (.b (match neg with | true => p != q | false => p == q))) H
    | _, _ => False
  | .eqn neg x => match ev fr x with
    | some (.one (.sl _ _ _ _)) => K (.one (.b (if neg then true else false))) H
    | some (.one .sn) => K (.one (.b (if neg then false else true))) H
    | _ => False
  | .cvt k x => match ev fr x with
    | some (.one (.i _ n)) => match k with
      | .i64 => ∃ z, w64 n = z ∧ K (.one (.i .i64 z)) H
      | .u8 => K (.one (.u (byt n))) H
      | _ => False
    | some (.one (.u c)) => match k with
      | .i64 => K (.one (.i .i64 (c.toNat : Int))) H
      | .u8 => K (.one (.u c)) H
      | _ => False
    | _ => False
  | .mkf f first caps => match ptrs (first.map (ev fr)), ptrs (caps.map (ev fr)) with
    | some a, some b => K (.one (.fn f a b)) H
    | _, _ => False
  | .add x c => match ev fr x with
    | some (.one (.pt k off)) => K (.one (.pt k (off + c))) H
    | _ => False
  | .idx x i len esz => match ev fr x, ev fr i with
    | some (.one (.pt k off)), some (.one (.i .i64 z)) => ∃ x q : Nat, z = (x : Int) ∧ x < len ∧ off + x * esz = q ∧ K (.one (.pt k q)) H
    | _, _ => False
  | .ids x i esz => match ev fr x, ev fr i with
    | some (.one (.sl k off len _)), some (.one (.i .i64 z)) => ∃ x q : Nat, z = (x : Int) ∧ x < len ∧ off + x * esz = q ∧ K (.one (.pt k q)) H
    | _, _ => False
  | .ixb x i len => match ev fr x, ev fr i with
    | some (.one (.ag [] n f)), some (.one (.i .i64 z)) => ∃ x : Nat, z = (x : Int) ∧ x < len ∧ x < n ∧ K (.one (.u (f x))) H
    | _, _ => False
  | .ixa x i len esz => match ev fr x, ev fr i with
    | some (.one (.ag [] n f)), some (.one (.i .i64 z)) => ∃ x : Nat, z = (x : Int) ∧ x < len ∧ x * esz + esz ≤ n ∧ K (.one (.ag [] esz (sh f (x * esz)))) H
    | _, _ => False
  | .ext x j => match ev fr x with
    | some (.tup l) => match l[j]? with
      | some a => K (.one a) H
      | none => False
    | _ => False
  | .call f as => match atoms (as.map (ev fr)) with
    | some l => vcall P ρ H f l K
    | none => False
  | .calv x as => match ev fr x, atoms (as.map (ev fr)) with
    | some (.one (.fn f first caps)), some l => vcall P ρ H f (first.map (fun p => .pt p.1 p.2) ++ l ++ caps.map (fun p => .pt p.1 p.2)) K
    | _, _ => False
  | .len x => match ev fr x with
    | some (.one (.sl _ _ n _)) => K (.one (.i .i64 (n : Int))) H
    | some (.one .sn) => K (.one (.i .i64 0)) H
    | _ => False
  | .slc x lo hi esz => match ev fr x with
    | some (.one (.sl k off len cap)) =>
      match evo fr 0 lo, evo fr (len : Int) hi with
      | some (.one (.i .i64 l)), some (.one (.i .i64 h)) => ∃ x y : Nat, l = (x : Int) ∧ h = (y : Int) ∧ (x ≤ y ∧ y ≤ cap ∧ x < cap) ∧ K (.one (.sl k (off + x * esz) (y - x) (cap - x))) H
      | _, _ => False
    | _ => False
  | .bsa xs => match atoms (xs.map (ev fr)) with
    | some l => match l.all At.cell1 with
      | true => ∃ m, H.length = m ∧ K (.one (.sl m 0 xs.length xs.length)) (H ++ [⟨false, .rw l⟩])
      | false => False
    | none => False
  | .bsb esz xs => layb fr (fun f => ∃ m, H.length = m ∧ K (.one (.sl m 0 xs.length xs.length)) (H ++ [⟨false, .by [] (xs.length * esz) f⟩])) esz xs 0 (fun _ => 0)
  | .bsh _ esz xs => match hdsL esz (xs.map (ev fr)) with
    | some l => ∃ m, H.length = m ∧ K (.one (.sl m 0 xs.length xs.length)) (H ++ [⟨false, .gs esz l⟩])
    | none => False
/-- operations in a set order: what they hand over may be told by a relation -/
def vopR (fr : List (Nat × Sv)) (H : List Blk) (o : PO) (K : Sv → List Blk → Prop) : Prop :=
  match o with
  | .call f as => match atoms (as.map (ev fr)) with
    | some l => vcall P ρ H f l K ∨ vcallR P ρ H f l K
    | none => False
  | o => vop P ρ fr H o K
end
end Hf
/- The engine, part 3: the check of an operation, and that what the abstract state says of it is so. -/
namespace Hf
open Go
def isVal : Value → At → Bool
  | .int k n, .i k' n' => k == k' && n == n'
  | .int k n, .u x => k == .u8 && n == (x.toNat : Int)
  | .bool x, .b y => x == y
  | .pointer none, .np => true
  | .slice none 0 0, .sn => true
  | _, _ => false

def chkAr (ρ : Nat → FuncId) : Operand → Ar → Bool
  | .tmp t, .t s => t == s
  | .const v, .c a => isVal v a
  | .func f, .c (.fn g [] []) => ρ g == f
  | _, _ => false

def chkArs (ρ : Nat → FuncId) : List Operand → List Ar → Bool
  | x :: xs, y :: ys => chkAr ρ x y && chkArs ρ xs ys
  | [], [] => true
  | _, _ => false

def sizeT (P : Program) (t : TypeId) : Option Nat := (P.info? t).map (·.size)
def aggB : TypeDesc → Bool
  | .struct _ => true
  | .array _ _ => true
  | _ => false
def aggT (P : Program) (t : TypeId) : Option Nat := match P.underlying t with
  | some d => if aggB d then sizeT P t else none
  | none => none
def oneT (P : Program) (t : TypeId) : Bool := match P.underlying t with
  | some d => !aggB d
  | none => false
def intT (P : Program) (t : TypeId) : Option IntKind := match P.underlying t with
  | some (.int k) => some k
  | _ => none

def zI : Value → Bool
  | .int k x => k == .i64 && x == 0
  | _ => false
def zU : Value → Bool
  | .int k x => k == .u8 && x == 0
  | _ => false
def zl : List Value → Nat → Nat → Bool
  | v :: r, h + 1, n + 1 => zI v && zl r h n
  | v :: r, 0, n + 1 => zU v && zl r 0 n
  | [], 0, 0 => true
  | _, _, _ => false
def zcells : Value → Zk → Bool
  | .agg cs, .by h n => zl cs.toList h n
  | .int k x, .i => k == .i64 && x == 0
  | .int k x, .u => k == .u8 && x == 0
  | .bool x, .b => !x
  | .pointer none, .np => true
  | .slice none 0 0, .sn => true
  | _, _ => false
def zeroOk (P : Program) (t : TypeId) (z : Zk) : Bool := match (P.info? t).bind (·.zero) with
  | some v => zcells v z
  | none => false

/-- arrays of arrays .. of bytes, n in all -/
def arrT (P : Program) : Nat → TypeId → Nat → Bool
  | 0, _, _ => false
  | d + 1, t, n => sizeT P t == some n && match P.underlying t with
    | some (.int .u8) => n == 1
    | some (.array len e) => match sizeT P e with
      | some m => n == len * m && arrT P d e m && (match P.underlying e with | some (.int _) => true | some (.array _ _) => true | _ => false)
      | none => false
    | _ => false

def fnOk (P : Program) (f : FuncId) : Bool := match P.funcs[f]? with
  | some fn => fn.name != "runtime.NumGoroutine" && fn.body.isSome
  | none => false

def chkPs (P : Program) (ρ : Nat → FuncId) (place : Nat → Option (Nat × Nat)) : List (Nat × Operand) → List (Nat × Nat × Ar) → Bool
  | (i, x) :: xs, (off, sz, y) :: ys => (match place i with
    | some (o, s) => o == off && s == sz
    | none => false) && chkAr ρ x y && chkPs P ρ place xs ys
  | [], [] => true
  | _, _ => false

/-- parts 0, 1, 2 .. in order -/
def chkSeq (ρ : Nat → FuncId) : Nat → List (Nat × Operand) → List Ar → Bool
  | j, (i, x) :: xs, y :: ys => i == j && chkAr ρ x y && chkSeq ρ (j + 1) xs ys
  | _, [], [] => true
  | _, _, _ => false

def chkOp (P : Program) (ρ : Nat → FuncId) (o : Op) (p : PO) : Bool :=
  match p with
  | .mov y => match o with
    | .move x => chkAr ρ x y
    | .assign x => chkAr ρ x y
    | _ => false
  | .pick c' x' y' => match o with
    | .pick c x y => chkAr ρ c c' && chkAr ρ x x' && chkAr ρ y y'
    | _ => false
  | .alo z => match o with
    | .alloc t => zeroOk P t z
    | _ => false
  | .box y => match o with
    | .box _ x => chkAr ρ x y
    | _ => false
  | .bld h n ps => match o with
    | .build t parts => zeroOk P t (.by h n) && match P.underlying t with
      | some (.struct fields) => chkPs P ρ (fun i => match fields[i]? with
        | some f => match sizeT P f.type with
          | some s => some (f.offset, s)
          | none => none
        | none => none) parts.toList ps && fields.all (fun f => (sizeT P f.type).isSome)
      | some (.array _ e) => match sizeT P e with
        | some s => chkPs P ρ (fun i => some (i * s, s)) parts.toList ps
        | none => false
      | _ => false
    | _ => false
  | .lda y _ n => match o with
    | .load t x => aggT P t == some n && chkAr ρ x y
    | _ => false
  | .ld8 y => match o with
    | .load t x => oneT P t && chkAr ρ x y
    | _ => false
  | .ld1 y => match o with
    | .load t x => oneT P t && chkAr ρ x y
    | _ => false
  | .sta y u n => match o with
    | .store t x v => sizeT P t == some n && chkAr ρ x y && chkAr ρ v u
    | _ => false
  | .st8 y u => match o with
    | .store t x v => sizeT P t == some 1 && chkAr ρ x y && chkAr ρ v u
    | _ => false
  | .st1 y u => match o with
    | .store t x v => sizeT P t == some 1 && chkAr ρ x y && chkAr ρ v u
    | _ => false
  | .nck y => match o with
    | .nilCheck x => chkAr ρ x y
    | _ => false
  | .bin op' x' y' => match o with
    | .binOp op _ x y _ => decide (op = op') && chkAr ρ x x' && chkAr ρ y y'
    | _ => false
  | .nt y => match o with
    | .unOp .not _ x => chkAr ρ x y
    | _ => false
  | .ng y => match o with
    | .unOp .neg _ x => chkAr ρ x y
    | _ => false
  | .eqa neg n x' y' => match o with
    | .binOp op t x y _ => decide (op = if neg then BinOp.neq else BinOp.eql) && arrT P 20 t n && (match P.underlying t with | some (.array _ _) => true | _ => false) && !P.eqGuardType P.depth t && chkAr ρ x x' && chkAr ρ y y'
    | _ => false
  | .eqb neg x' y' => match o with
    | .binOp op t x y _ => decide (op = if neg then BinOp.neq else BinOp.eql) && (match P.underlying t with | some .bool => true | _ => false) && chkAr ρ x x' && chkAr ρ y y'
    | _ => false
  | .eqn neg y => match o with
    | .binOp op t x z _ => decide (op = if neg then BinOp.neq else BinOp.eql) && (match P.underlying t with | some (.slice _) => true | _ => false) && (match z with | .const (.slice none 0 0) => true | _ => false) && chkAr ρ x y
    | _ => false
  | .cvt k y => match o with
    | .convert s d x => (intT P s).isSome && intT P d == some k && chkAr ρ x y
    | _ => false
  | .mkf f' first' caps' => match o with
    | .makeFunc fn first caps => (match fn with | .func f => ρ f' == f | _ => false) && chkArs ρ first.toList first' && chkArs ρ caps.toList caps'
    | _ => false
  | .add y c => match o with
    | .fieldAddr s x j => chkAr ρ x y && match P.underlying s with
      | some (.struct fields) => match fields[j]? with
        | some f => f.offset == c && (match sizeT P f.type with | some n => n != 0 | none => false)
        | none => false
      | _ => false
    | _ => false
  | .idx y j len esz => match o with
    | .indexAddr t x i => chkAr ρ x y && chkAr ρ i j && (match P.underlying t with
      | some (.array l e) => l == len && sizeT P e == some esz
      | _ => false)
    | _ => false
  | .ids y j esz => match o with
    | .indexAddr t x i => chkAr ρ x y && chkAr ρ i j && (match P.underlying t with
      | some (.slice e) => sizeT P e == some esz
      | _ => false)
    | _ => false
  | .ixb y j len => match o with
    | .index t x i => chkAr ρ x y && chkAr ρ i j && (match P.underlying t with
      | some (.array l e) => l == len && sizeT P e == some 1 && oneT P e
      | _ => false)
    | _ => false
  | .ixa y j len esz => match o with
    | .index t x i => chkAr ρ x y && chkAr ρ i j && (match P.underlying t with
      | some (.array l e) => l == len && aggT P e == some esz
      | _ => false)
    | _ => false
  | .ext y j => match o with
    | .extract x i => i == j && chkAr ρ x y
    | _ => false
  | .call f' as' => match o with
    | .call c => (match c.callee with | .value (.func f) => ρ f' == f && fnOk P f | _ => false) && chkArs ρ c.args.toList as'
    | _ => false
  | .calv y as' => match o with
    | .call c => (match c.callee with | .value (.tmp t) => chkAr ρ (.tmp t) y | _ => false) && chkArs ρ c.args.toList as'
    | _ => false
  | .len y => match o with
    | .call c => (match c.callee with | .builtin .len => true | _ => false) && (match c.args.toList with | [x] => chkAr ρ x y | _ => false) && (match c.argTypes.toList with | [t] => (match P.underlying t with | some (.slice _) => true | _ => false) | _ => false)
    | _ => false
  | .slc y lo' hi' esz => match o with
    | .slice t x lo hi mx => chkAr ρ x y && mx.isNone && (match lo, lo' with | none, none => true | some u, some v => chkAr ρ u v | _, _ => false) && (match hi, hi' with | none, none => true | some u, some v => chkAr ρ u v | _, _ => false) && (match P.underlying t with
      | some (.slice e) => sizeT P e == some esz
      | _ => false)
    | _ => false
  | .bsa ys => match o with
    | .buildSlice t len parts => len == ys.length && decide (len ≤ 100) && chkSeq ρ 0 parts.toList ys && (match P.underlying t with
      | some (.slice e) => sizeT P e == some 1 && (match (P.info? e).bind (·.zero) with | some z => z.cells.size == 1 | none => false)
      | _ => false)
    | _ => false
  | .bsb esz ys => match o with
    | .buildSlice t len parts => len == ys.length && decide (len * esz ≤ 10000) && esz != 0 && chkSeq ρ 0 parts.toList ys && (match P.underlying t with
      | some (.slice e) => sizeT P e == some esz && zeroOk P e (.by 0 esz)
      | _ => false)
    | _ => false
  | .bsh h esz ys => match o with
    | .buildSlice t len parts => len == ys.length && decide (len * esz ≤ 10000) && esz != 0 && chkSeq ρ 0 parts.toList ys && (match P.underlying t with
      | some (.slice e) => sizeT P e == some esz && zeroOk P e (.by h esz)
      | _ => false)
    | _ => false

section
variable {P : Program} {ρ : Nat → FuncId} {σ : Nat → Nat} {tm : Array Value} {fr : List (Nat × Sv)} {m : Nat}
theorem isVal_sound {v : Value} {a : At} (h : isVal v a = true) : v = ren ρ σ a ∧ ∀ m, a.lt m = true := by
 unfold isVal at h
 split at h
 ·simp only [Bool.and_eq_true, beq_iff_eq] at h; obtain ⟨rfl, rfl⟩ := h; exact ⟨rfl, fun _ => rfl⟩
 ·simp only [Bool.and_eq_true, beq_iff_eq] at h; obtain ⟨rfl, rfl⟩ := h; exact ⟨rfl, fun _ => rfl⟩
 ·simp only [beq_iff_eq] at h; subst h; exact ⟨rfl, fun _ => rfl⟩
 ·exact ⟨rfl, fun _ => rfl⟩
 ·exact ⟨rfl, fun _ => rfl⟩
 ·cases h

theorem chkAr_sound {a : Act} {x : Operand} {y : Ar} {v : Sv} (h : chkAr ρ x y = true) (hf : FRel ρ σ a.tmps fr m) (he : ev fr y = some v) :
  a.eval x = renS ρ σ v ∧ v.lt m = true := by
 unfold chkAr at h
 split at h
 ·simp only [beq_iff_eq] at h; subst h
  have h1 := hf.val _ _ he
  refine ⟨?_, hf.clo _ _ he⟩
  simp [Act.eval, h1]
 ·obtain ⟨h1, h2⟩ := isVal_sound (ρ := ρ) (σ := σ) h
  simp only [ev, Option.some.injEq] at he; subst he
  exact ⟨h1, h2 m⟩
 ·simp only [beq_iff_eq] at h; subst h
  simp only [ev, Option.some.injEq] at he; subst he
  exact ⟨rfl, rfl⟩
 ·cases h

theorem atoms_sound {a : Act} : ∀ {xs : List Operand} {ys : List Ar} {l : List At}, chkArs ρ xs ys = true → FRel ρ σ a.tmps fr m → atoms (ys.map (ev fr)) = some l →
    xs.map a.eval = l.map (ren ρ σ) ∧ ∀ b ∈ l, b.lt m = true
  | [], [], l, _, _, h => by simp [atoms] at h; subst h; simp
  | x :: xs, y :: ys, l, hc, hf, h => by
    simp only [chkArs, Bool.and_eq_true] at hc
    simp only [List.map_cons] at h
    unfold atoms at h
    split at h
    · rename_i heq; simp at heq
    · rename_i a0 r heq
      simp only [List.cons.injEq] at heq
      obtain ⟨e1, e2⟩ := heq
      subst e2
      split at h
      · rename_i l' hl'
        simp only [Option.some.injEq] at h; subst h
        have h1 := chkAr_sound hc.1 hf e1
        have h2 := atoms_sound hc.2 hf hl'
        refine ⟨by simp [h1.1, h2.1, renS], ?_⟩
        intro b hb
        rcases List.mem_cons.1 hb with rfl | hb
        · exact h1.2
        · exact h2.2 b hb
      · cases h
    · cases h
  | [], _ :: _, _, hc, _, _ => by simp [chkArs] at hc
  | _ :: _, [], _, hc, _, _ => by simp [chkArs] at hc

theorem ptrs_sound {a : Act} : ∀ {xs : List Operand} {ys : List Ar} {l : List (Nat × Nat)}, chkArs ρ xs ys = true → FRel ρ σ a.tmps fr m → ptrs (ys.map (ev fr)) = some l →
    xs.map a.eval = l.map (pv σ) ∧ ∀ b ∈ l, b.1 < m
  | [], [], l, _, _, h => by simp [ptrs] at h; subst h; simp
  | x :: xs, y :: ys, l, hc, hf, h => by
    simp only [chkArs, Bool.and_eq_true] at hc
    simp only [List.map_cons] at h
    unfold ptrs at h
    split at h
    · rename_i heq; simp at heq
    · rename_i k o r heq
      simp only [List.cons.injEq] at heq
      obtain ⟨e1, e2⟩ := heq
      subst e2
      split at h
      · rename_i l' hl'
        simp only [Option.some.injEq] at h; subst h
        have h1 := chkAr_sound hc.1 hf e1
        have h2 := ptrs_sound hc.2 hf hl'
        refine ⟨by simp [h1.1, h2.1, renS, ren, pv], ?_⟩
        intro b hb
        rcases List.mem_cons.1 hb with rfl | hb
        · simpa [Sv.lt, At.lt] using h1.2
        · exact h2.2 b hb
      · cases h
    · cases h
  | [], _ :: _, _, hc, _, _ => by simp [chkArs] at hc
  | _ :: _, [], _, hc, _, _ => by simp [chkArs] at hc

/-! ### runs -/
variable {w : World}
theorem run_sizeOf' {t : TypeId} {n : Nat} (h : sizeT P t = some n) : (Go.sizeOf t).run P w = .ok n w := by
  unfold sizeT at h
  cases hi : P.info? t with
  | none => simp [hi] at h
  | some i =>
    simp only [hi, Option.map_some, Option.some.injEq] at h
    simp [Go.sizeOf, typeInfo, hi, h]
theorem run_isAgg' {t : TypeId} {d : TypeDesc} (h : P.underlying t = some d) : (isAgg t).run P w = .ok (aggB d) w := by
 unfold isAgg
 rw [Sem.run_bind, run_underlying h w]
 cases d <;> rfl
theorem run_oneT {t : TypeId} (h : oneT P t = true) : (isAgg t).run P w = .ok false w := by
 unfold oneT at h
 split at h
 ·rename_i d hd; rw [run_isAgg' hd]; simp at h; rw [h]
 ·cases h
theorem aggT_spec {t : TypeId} {n : Nat} (h : aggT P t = some n) : (isAgg t).run P w = .ok true w ∧ sizeT P t = some n := by
 unfold aggT at h
 split at h
 ·rename_i d hd
  split at h
  ·rename_i hb; rw [run_isAgg' hd, hb]; exact ⟨rfl, h⟩
  ·cases h
 ·cases h

theorem add_mk (b o j : Nat) : (⟨b, o, none⟩ : Addr).add j = ⟨b, o + j, none⟩ := by unfold Addr.add; split <;> simp_all

theorem cell_blk {b o : Nat} {cs : Array Value} {T : TypeId} {fz : Nat × Nat} (h : w.heap[b]? = some (.cells cs T fz)) : w.cell? ⟨b, o, none⟩ = cs[o]? := by
 simp [World.cell?, h]

/-- cells read in a row -/
theorem run_cells {b off n : Nat} {cs : Array Value} {T : TypeId} {fz : Nat × Nat} {g : Nat → Value} (h : w.heap[b]? = some (.cells cs T fz)) (hg : ∀ j, j < n → cs[off + j]? = some (g j)) :
  (loadCells ⟨b, off, none⟩ n).run P w = .ok ((List.range n).map g).toArray w :=
 run_loadCells w _ n g fun j hj => by rw [add_mk, cell_blk h]; exact hg j hj

theorem run_loadAgg {t : TypeId} {b off n : Nat} {cs : Array Value} {T : TypeId} {fz : Nat × Nat} {g : Nat → Value} (ht : aggT P t = some n) (h : w.heap[b]? = some (.cells cs T fz))
  (hg : ∀ j, j < n → cs[off + j]? = some (g j)) : (loadVar t ⟨b, off, none⟩).run P w = .ok (.agg ((List.range n).map g).toArray) w := by
 obtain ⟨h1, h2⟩ := aggT_spec (w := w) ht
 unfold loadVar
 rw [Sem.run_bind, h1]
 simp only [Result.andThen_ok, if_true, Sem.run_bind, run_sizeOf' h2, run_cells h hg, Sem.run_pure]

theorem run_loadOne {t : TypeId} {b off : Nat} {cs : Array Value} {T : TypeId} {fz : Nat × Nat} {v : Value} (ht : oneT P t = true) (h : w.heap[b]? = some (.cells cs T fz))
  (hg : cs[off]? = some v) : (loadVar t ⟨b, off, none⟩).run P w = .ok v w := by
 unfold loadVar
 rw [Sem.run_bind, run_oneT ht]
 simp only [Result.andThen_ok, Bool.false_eq_true, if_false, run_load, cell_blk h, hg]

theorem run_storeAll {t : TypeId} {b off : Nat} {cs : Array Value} {T : TypeId} {v : Value} {n : Nat} (ht : sizeT P t = some n) (hv : v.cells.size = n) (h : w.heap[b]? = some (.cells cs T (0, 0)))
  (hle : off + n ≤ cs.size) (h1 : ∀ u ∈ v.cells.toList, u.oneCell' = true) :
  (storeVar t ⟨b, off, none⟩ v).run P w = .ok () (w.setRow b (cs.toList.take off ++ v.cells.toList ++ cs.toList.drop (off + n)).toArray) := by
 unfold storeVar
 rw [Sem.run_bind, run_sizeOf' ht]
 simp only [Result.andThen_ok, ne_eq, hv, not_true_eq_false, if_false]
 have := run_storeCells_at (P := P) b off T v.cells.toList 0 cs w h (by simp [hv]; omega) h1
 simp only [Nat.add_zero, Array.length_toList, hv] at this
 exact this
end
end Hf
/- The engine, part 4: an operation of the abstract state is an operation of the model. -/
namespace Hf
open Go
section
variable {P : Program} {ρ : Nat → FuncId} {σ : Nat → Nat} {H : List Blk} {w : World}
/-! ### a new block -/
def setAt (σ : Nat → Nat) (k b : Nat) : Nat → Nat := fun x => if x = k then b else σ x
theorem setAt_lt {σ : Nat → Nat} {k b : Nat} (x : Nat) (h : x < k) : setAt σ k b x = σ x := by
 unfold setAt; rw [if_neg (by omega)]
theorem setAt_same {σ : Nat → Nat} {k b : Nat} : setAt σ k b k = b := by simp [setAt]

theorem Sp_alloc (hh : HRel ρ σ w H) (c : Bk) (hc : c.lt H.length = true) (T : TypeId) (hz : frz c = (0, 0) := by rfl) :
  Sp ρ σ H w (setAt σ H.length w.heap.size) (H ++ [⟨false, c⟩]) { w with heap := w.heap.push (.cells (cellsB ρ σ c) T) } where
 h := {
  at_ := fun k B hB => by
   by_cases hk : k < H.length
   ·rw [List.getElem?_append_left hk] at hB
    obtain ⟨T', e⟩ := hh.at_ k B hB
    have hlt := hh.lt hk
    refine ⟨T', ?_⟩
    rw [setAt_lt k hk, cellsB_congr (fun x hx => setAt_lt x hx) (hh.clo k B hB)]
    show (w.heap.push _)[σ k]? = _
    rw [Array.getElem?_push, if_neg (by omega)]
    exact e
   ·have hk' : k = H.length := by
     have := (List.getElem?_eq_some_iff.1 hB).1
     simp at this; omega
    subst hk'
    simp at hB
    subst hB
    refine ⟨T, ?_⟩
    rw [setAt_same, cellsB_congr (fun x hx => setAt_lt x hx) hc]
    show (w.heap.push _)[w.heap.size]? = _
    simp [hz]
  sep := fun j k B hjk hk hB hro => by
   simp at hk
   by_cases hk1 : k < H.length
   ·by_cases hj1 : j < H.length
    ·rw [setAt_lt k hk1, setAt_lt j hj1]
     rw [List.getElem?_append_left hj1] at hB
     exact hh.sep j k B hjk hk1 hB hro
    ·have hj' : j = H.length := by
      have := (List.getElem?_eq_some_iff.1 hB).1
      simp at this; omega
     subst hj'
     rw [setAt_same, setAt_lt k hk1]
     have := hh.lt hk1; omega
   ·have hk' : k = H.length := by omega
    subst hk'
    have hj1 : j < H.length := by
     have := (List.getElem?_eq_some_iff.1 hB).1
     simp at this; omega
    rw [setAt_same, setAt_lt j hj1]
    have := hh.lt hj1; omega
  clo := fun k B hB => by
   by_cases hk : k < H.length
   ·rw [List.getElem?_append_left hk] at hB
    exact Bk.lt_mono (by simp) (hh.clo k B hB)
   ·have hk' : k = H.length := by
     have := (List.getElem?_eq_some_iff.1 hB).1
     simp at this; omega
    subst hk'
    simp at hB
    subst hB
    exact Bk.lt_mono (by simp) hc }
 k := ⟨rfl, rfl, rfl, by simp, fun b hb _ => by
  show (w.heap.push _)[b]? = _
  rw [Array.getElem?_push, if_neg (by omega)]⟩
 len := by simp
 same := fun k hk => setAt_lt k hk
 rof := fun k B B' e e' => by
  have hk := (List.getElem?_eq_some_iff.1 e).1
  rw [List.getElem?_append_left hk, e] at e'
  cases e'; rfl
 fresh := fun k h1 h2 => by
  simp at h2
  have : k = H.length := by omega
  subst this
  rw [setAt_same]; exact Nat.le_refl _

/-! ### a block written -/
theorem Sp_store (hh : HRel ρ σ w H) {k : Nat} {c0 c : Bk} (hk : H[k]? = some ⟨false, c0⟩) (hc : c.lt H.length = true) (hz : frz c = frz c0 := by rfl) :
  Sp ρ σ H w σ (H.set k ⟨false, c⟩) (w.setRow (σ k) (cellsB ρ σ c)) := by
 have hkl : k < H.length := (List.getElem?_eq_some_iff.1 hk).1
 have hget : ∀ j B, (H.set k ⟨false, c⟩)[j]? = some B → (j = k ∧ B = ⟨false, c⟩) ∨ (j ≠ k ∧ H[j]? = some B) := by
  intro j B hB
  by_cases hj : j = k
  ·subst hj
   rw [List.getElem?_set_self hkl] at hB
   exact .inl ⟨rfl, by cases hB; rfl⟩
  ·rw [List.getElem?_set_ne (Ne.symm hj)] at hB
   exact .inr ⟨hj, hB⟩
 obtain ⟨T, hT⟩ := hh.at_ k _ hk
 refine ⟨⟨?_, ?_, ?_⟩, ⟨rfl, rfl, rfl, by simp, ?_⟩, by simp, fun _ _ => rfl, ?_, ?_⟩
 ·intro j B hB
  rcases hget j B hB with ⟨rfl, rfl⟩ | ⟨hj, hB'⟩
  ·exact ⟨T, setRow_heap w _ _ _ T _ (by rw [hz]; exact hT)⟩
  ·obtain ⟨T', e⟩ := hh.at_ j B hB'
   refine ⟨T', ?_⟩
   have hjl : j < H.length := (List.getElem?_eq_some_iff.1 hB').1
   rw [setRow_other _ _ _ _ (fun e' => hh.sep k j _ (Ne.symm hj) hjl hk rfl e'.symm)]
   exact e
 ·intro i j B hij hj hB hro
  simp at hj
  rcases hget i B hB with ⟨rfl, rfl⟩ | ⟨hi, hB'⟩
  ·exact hh.sep _ _ _ hij hj hk rfl
  ·exact hh.sep _ _ _ hij hj hB' hro
 ·intro j B hB
  simp only [List.length_set]
  rcases hget j B hB with ⟨rfl, rfl⟩ | ⟨hj, hB'⟩
  ·exact hc
  ·exact hh.clo j B hB'
 ·intro b hb hn
  exact setRow_other _ _ _ _ (hn k _ hk rfl)
 ·intro j B B' e e'
  rcases hget j B' e' with ⟨rfl, rfl⟩ | ⟨hj, hB'⟩
  ·rw [hk] at e; cases e; rfl
  ·rw [hB'] at e; cases e; rfl
 ·intro j h1 h2
  simp at h2
  omega

/-! ### lists of cells -/
theorem cells_ext {n : Nat} {l : List Value} {g : Nat → Value} (hl : l.length = n) (h : ∀ x, x < n → l[x]? = some (g x)) : l = (List.range n).map g := by
 apply List.ext_getElem?
 intro x
 by_cases hx : x < n
 ·rw [h x hx]; simp [hx]
 ·rw [List.getElem?_eq_none (by omega), List.getElem?_eq_none (by simp; omega)]

theorem splice_get {cs vs : List Value} {off : Nat} (h : off + vs.length ≤ cs.length) (x : Nat) :
  (cs.take off ++ vs ++ cs.drop (off + vs.length))[x]? = if x < off then cs[x]? else if x < off + vs.length then vs[x - off]? else cs[x]? := by
 by_cases h1 : x < off
 ·rw [if_pos h1, List.append_assoc, List.getElem?_append_left (by simp; omega), List.getElem?_take_of_lt h1]
 ·rw [if_neg h1]
  by_cases h2 : x < off + vs.length
  ·rw [if_pos h2, List.getElem?_append_left (by simp; omega), List.getElem?_append_right (by simp; omega)]
   congr 1; simp; omega
  ·rw [if_neg h2, List.getElem?_append_right (by simp; omega), List.getElem?_drop]
   congr 1; simp; omega

theorem splice_len {cs vs : List Value} {off : Nat} (h : off + vs.length ≤ cs.length) : (cs.take off ++ vs ++ cs.drop (off + vs.length)).length = cs.length := by
 simp; omega

theorem spl_cells {hd : List Int} {N n off : Nat} {f g : By} (h0 : hd.length ≤ off) (h1 : off + n ≤ N) :
  ((cellsOf hd N f).toList.take off ++ (cellsOf [] n g).toList ++ (cellsOf hd N f).toList.drop (off + n)).toArray = cellsOf hd N (spl f off n g) := by
 have hn : (cellsOf [] n g).toList.length = n := by simp [cellsOf]
 have hN : (cellsOf hd N f).toList.length = N := by simp [cellsOf]
 have hle : off + (cellsOf [] n g).toList.length ≤ (cellsOf hd N f).toList.length := by omega
 unfold cellsOf
 congr 1
 apply cells_ext
 ·have := splice_len hle; rw [hn, hN] at this; simpa [cellsOf] using this
 ·intro x hx
  have := splice_get hle x
  rw [hn] at this
  simp only [cellsOf] at this
  rw [this]
  by_cases a1 : x < off
  ·rw [if_pos a1]
   simp [hx, cel, spl, show ¬ (off ≤ x) by omega]
  ·rw [if_neg a1]
   by_cases a2 : x < off + n
   ·rw [if_pos a2]
    have e1 : hd[x]? = none := List.getElem?_eq_none (by omega)
    have a3 : x - off < n := by omega
    simp [a3, cel, spl, e1, show off ≤ x by omega, a2]
   ·rw [if_neg a2]
    simp [hx, cel, spl, a2]

theorem upd_cells {hd : List Int} {N off : Nat} {f : By} {c : UInt8} (h0 : hd.length ≤ off) (h1 : off < N) :
  ((cellsOf hd N f).toList.take off ++ [Value.int .u8 (c.toNat : Int)] ++ (cellsOf hd N f).toList.drop (off + 1)).toArray = cellsOf hd N (upd f off c) := by
 have := spl_cells (f := f) (g := fun _ => c) (n := 1) h0 (by omega : off + 1 ≤ N)
 have e1 : (cellsOf [] 1 (fun _ => c)).toList = [Value.int .u8 (c.toNat : Int)] := rfl
 rw [e1] at this
 rw [this]
 congr 1
 funext x
 unfold spl upd
 by_cases h : x = off
 ·subst h; simp
 ·rw [if_neg (by omega), if_neg h]

theorem hdset_cells {hd : List Int} {N off : Nat} {f : By} {z : Int} (h0 : off < hd.length) (h1 : off < N) :
  ((cellsOf hd N f).toList.take off ++ [Value.int .i64 z] ++ (cellsOf hd N f).toList.drop (off + 1)).toArray = cellsOf (hd.set off z) N f := by
 have hN : (cellsOf hd N f).toList.length = N := by simp [cellsOf]
 have hle : off + ([Value.int .i64 z] : List Value).length ≤ (cellsOf hd N f).toList.length := by rw [hN]; simp; omega
 unfold cellsOf
 congr 1
 apply cells_ext
 ·have := splice_len hle; rw [hN] at this; simpa [cellsOf] using this
 ·intro x hx
  have := splice_get hle x
  simp only [cellsOf, List.length_singleton] at this
  rw [this]
  by_cases a1 : x < off
  ·rw [if_pos a1]
   simp [hx, cel, List.getElem?_set_ne (show off ≠ x by omega)]
  ·rw [if_neg a1]
   by_cases a2 : x < off + 1
   ·rw [if_pos a2]
    have : x = off := by omega
    subst this
    simp [cel, h0]
   ·rw [if_neg a2]
    simp [hx, cel, List.getElem?_set_ne (show off ≠ x by omega)]

theorem cellsOf_one (hd : List Int) (n : Nat) (f : By) : ∀ u ∈ (cellsOf hd n f).toList, u.oneCell' = true := by
 intro u hu
 simp only [cellsOf, List.mem_map] at hu
 obtain ⟨x, _, rfl⟩ := hu
 unfold cel
 split <;> rfl

theorem ren_one {a : At} (h : a.cell1 = true) : (ren ρ σ a).oneCell' = true ∧ (ren ρ σ a).cells = #[ren ρ σ a] := by
 cases a <;> first | exact ⟨rfl, rfl⟩ | cases h

theorem cellsB_by (hd : List Int) (n : Nat) (f : By) : cellsB ρ σ (.by hd n f) = cellsOf hd n f := rfl

end
end Hf
/- The engine, part 5: soundness of the operations but calls. -/
namespace Hf
open Go
section
variable {P : Program} {ρ : Nat → FuncId} {σ : Nat → Nat} {H : List Blk} {w : World} {o : Oper} {a : Act} {fr : List (Nat × Sv)} {K : Sv → List Blk → Prop}
variable {next : Act → World → Prop} {Q : Exit → Act → World → Prop}
theorem value_wp {w' : World} {v : Value} (h : (execOp a.eval o).run P w = .ok (.value v) w') (hn : next (a.put o.dst v) w') : o.wp P a w next Q := by
 unfold Oper.wp
 rw [h]
 exact hn
theorem skip_wp {w' : World} (h : (execOp a.eval o).run P w = .ok .skip w') (hn : next (a.put o.dst undef) w') : o.wp P a w next Q := by
 unfold Oper.wp
 rw [h]
 exact hn

/-- what a caller of the operations' laws hands over -/
def Nx (ρ : Nat → FuncId) (σ : Nat → Nat) (H : List Blk) (w : World) (o : Oper) (a : Act) (K : Sv → List Blk → Prop) (next : Act → World → Prop) : Prop :=
 ∀ v H' σ' w', K v H' → Sp ρ σ H w σ' H' w' → v.lt H'.length = true → next (a.put o.dst (renS ρ σ' v)) w'

theorem here (hn : Nx ρ σ H w o a K next) (hh : HRel ρ σ w H) {v : Sv} (hK : K v H) (hl : v.lt H.length = true) {x : Value} (hx : x = renS ρ σ v)
  (hrun : (execOp a.eval o).run P w = .ok (.value x) w) : o.wp P a w next Q :=
 value_wp hrun (by rw [hx]; exact hn v H σ w hK (Sp.refl hh) hl)

theorem blk_of (hh : HRel ρ σ w H) {k : Nat} {r : Bool} {c : Bk} (h : H[k]? = some ⟨r, c⟩) : ∃ T, w.heap[σ k]? = some (.cells (cellsB ρ σ c) T (frz c)) := hh.at_ k _ h

/-! ### plain ones -/
theorem s_mov {y : Ar} (hc : chkOp P ρ o.op (.mov y) = true) (hf : FRel ρ σ a.tmps fr H.length) (hh : HRel ρ σ w H) (hv : vop P ρ fr H (.mov y) K) (hn : Nx ρ σ H w o a K next) : o.wp P a w next Q := by
 simp only [vop] at hv
 split at hv
 ·rename_i v he
  have main : ∀ x, chkAr ρ x y = true → (o.op = .move x ∨ o.op = .assign x) → o.wp P a w next Q := by
   intro x hx ho
   obtain ⟨h1, h2⟩ := chkAr_sound hx hf he
   refine here hn hh hv h2 h1 ?_
   rcases ho with ho | ho <;> simp [execOp, ho]
  simp only [chkOp] at hc
  split at hc
  ·rename_i x ho; exact main x hc (.inl ho)
  ·rename_i x ho; exact main x hc (.inr ho)
  ·cases hc
 ·exact hv.elim

theorem s_pick {c' x' y' : Ar} (hc : chkOp P ρ o.op (.pick c' x' y') = true) (hf : FRel ρ σ a.tmps fr H.length) (hh : HRel ρ σ w H) (hv : vop P ρ fr H (.pick c' x' y') K) (hn : Nx ρ σ H w o a K next) : o.wp P a w next Q := by
 simp only [vop] at hv
 split at hv
 ·rename_i b he
  have hv' := brB_elim hv
  clear hv
  simp only [chkOp] at hc
  split at hc
  ·rename_i c x y ho
   simp only [Bool.and_eq_true] at hc
   obtain ⟨⟨h1, h2⟩, h3⟩ := hc
   obtain ⟨e1, -⟩ := chkAr_sound h1 hf he
   split at hv'
   ·rename_i v hev
    cases b
    ·simp only [Bool.false_eq_true, if_false] at hev
     obtain ⟨e3, l3⟩ := chkAr_sound h3 hf hev
     refine here hn hh hv' l3 e3 ?_
     simp [execOp, ho, e1, renS, ren, asBool]
    ·simp only [if_true] at hev
     obtain ⟨e3, l3⟩ := chkAr_sound h2 hf hev
     refine here hn hh hv' l3 e3 ?_
     simp [execOp, ho, e1, renS, ren, asBool]
   ·exact hv'.elim
  ·cases hc
 ·exact hv.elim

theorem s_nt {y : Ar} (hc : chkOp P ρ o.op (.nt y) = true) (hf : FRel ρ σ a.tmps fr H.length) (hh : HRel ρ σ w H) (hv : vop P ρ fr H (.nt y) K) (hn : Nx ρ σ H w o a K next) : o.wp P a w next Q := by
 simp only [vop] at hv
 split at hv
 ·rename_i b he
  simp only [chkOp] at hc
  split at hc
  ·rename_i t x ho
   obtain ⟨e1, -⟩ := chkAr_sound hc hf he
   refine here hn hh hv rfl rfl ?_
   simp [execOp, ho, e1, renS, ren, Op.unary]
  ·cases hc
 ·exact hv.elim

theorem s_ng {y : Ar} (hc : chkOp P ρ o.op (.ng y) = true) (hf : FRel ρ σ a.tmps fr H.length) (hh : HRel ρ σ w H) (hv : vop P ρ fr H (.ng y) K) (hn : Nx ρ σ H w o a K next) : o.wp P a w next Q := by
 simp only [vop] at hv
 split at hv
 ·rename_i b he
  obtain ⟨z, rfl, hv⟩ := hv
  simp only [chkOp] at hc
  split at hc
  ·rename_i t x ho
   obtain ⟨e1, -⟩ := chkAr_sound hc hf he
   refine here hn hh hv rfl rfl ?_
   simp [execOp, ho, e1, renS, ren, Op.unary, Op.intArith, w64]
  ·cases hc
 ·exact hv.elim

theorem s_nck {y : Ar} (hc : chkOp P ρ o.op (.nck y) = true) (hf : FRel ρ σ a.tmps fr H.length) (hh : HRel ρ σ w H) (hv : vop P ρ fr H (.nck y) K) (hn : Nx ρ σ H w o a K next) : o.wp P a w next Q := by
 simp only [vop] at hv
 split at hv
 ·rename_i k off he
  simp only [chkOp] at hc
  split at hc
  ·rename_i x ho
   obtain ⟨e1, l1⟩ := chkAr_sound hc hf he
   refine here hn hh hv l1 rfl ?_
   simp [execOp, ho, e1, renS, ren]
  ·cases hc
 ·exact hv.elim

theorem run_underlying' {t : TypeId} {d : TypeDesc} (h : P.underlying t = some d) (w : World) : (underlying t).run P w = .ok d w := run_underlying h w

theorem s_cvt {k : IntKind} {y : Ar} (hc : chkOp P ρ o.op (.cvt k y) = true) (hf : FRel ρ σ a.tmps fr H.length) (hh : HRel ρ σ w H) (hv : vop P ρ fr H (.cvt k y) K) (hn : Nx ρ σ H w o a K next) : o.wp P a w next Q := by
 simp only [chkOp] at hc
 split at hc
 ·rename_i s d x ho
  simp only [Bool.and_eq_true, beq_iff_eq] at hc
  obtain ⟨⟨h1, h2⟩, h3⟩ := hc
  have hs : ∃ ks, P.underlying s = some (.int ks) := by
   unfold intT at h1
   split at h1
   ·rename_i ks e; exact ⟨ks, e⟩
   ·cases h1
  have hd : P.underlying d = some (.int k) := by
   unfold intT at h2
   split at h2
   ·rename_i ks e; cases h2; exact e
   ·cases h2
  obtain ⟨ks, hs⟩ := hs
  have hrun : ∀ kk n, (convert s d (.int kk n)).run P w = .ok (.int k (k.wrap n)) w := by
   intro kk n
   unfold convert
   simp [Sem.run_bind, run_underlying' hs, run_underlying' hd, Conv.intToInt]
  simp only [vop] at hv
  split at hv
  ·rename_i kk n he
   obtain ⟨e1, -⟩ := chkAr_sound h3 hf he
   split at hv
   ·obtain ⟨_, rfl, hv⟩ := hv
    refine here hn hh hv rfl rfl ?_
    simp [execOp, ho, e1, renS, ren, hrun, w64]
   ·refine here hn hh hv rfl rfl ?_
    simp [execOp, ho, e1, renS, ren, hrun, wrap_u8]
   ·exact hv.elim
  ·rename_i c he
   obtain ⟨e1, -⟩ := chkAr_sound h3 hf he
   have hle := toNat_le c
   split at hv
   ·refine here hn hh hv rfl rfl ?_
    have : IntKind.i64.wrap (c.toNat : Int) = (c.toNat : Int) := w64_id _ (by omega) (by omega)
    simp [execOp, ho, e1, renS, ren, hrun, this]
   ·refine here hn hh hv rfl rfl ?_
    have : IntKind.u8.wrap (c.toNat : Int) = (c.toNat : Int) := by rw [wrap_u8, byt_toNat]; omega
    simp [execOp, ho, e1, renS, ren, hrun, this]
   ·exact hv.elim
  ·exact hv.elim
 ·cases hc

theorem eqGuard_int {op : BinOp} {t : TypeId} {x y : Operand} {k k' : IntKind} {m n : Int} : (eqGuard op t x y (.int k m) (.int k' n)).run P w = .ok () w := by
 unfold eqGuard
 cases op <;> simp

theorem u8_beq (x y : UInt8) : ((x.toNat : Int) == (y.toNat : Int)) = (x == y) := by
 rw [Bool.eq_iff_iff]
 simp only [beq_iff_eq]
 constructor
 ·intro h; exact UInt8.toNat_inj.1 (by omega)
 ·rintro rfl; rfl
theorem u8_bne (x y : UInt8) : ((x.toNat : Int) != (y.toNat : Int)) = (x != y) := by
 simp only [bne, u8_beq]

theorem run_quo {t : TypeId} {m n : Int} (h : n ≠ 0) : (binOp .quo t (.int .i64 m) (.int .i64 n)).run P w = .ok (.int .i64 (w64 (m.tdiv n))) w := by
 show (Op.intDiv .quo .i64 m n).run P w = _
 unfold Op.intDiv
 rw [if_neg h]
 rfl
theorem run_rem {t : TypeId} {m n : Int} (h : n ≠ 0) : (binOp .rem t (.int .i64 m) (.int .i64 n)).run P w = .ok (.int .i64 (m.tmod n)) w := by
 show (Op.intDiv .rem .i64 m n).run P w = _
 unfold Op.intDiv
 rw [if_neg h]
 rfl

theorem s_bin {op' : BinOp} {x' y' : Ar} (hc : chkOp P ρ o.op (.bin op' x' y') = true) (hf : FRel ρ σ a.tmps fr H.length) (hh : HRel ρ σ w H) (hv : vop P ρ fr H (.bin op' x' y') K) (hn : Nx ρ σ H w o a K next) : o.wp P a w next Q := by
 simp only [chkOp] at hc
 split at hc
 ·rename_i op t x y yt ho
  simp only [Bool.and_eq_true, decide_eq_true_eq] at hc
  obtain ⟨⟨rfl, h1⟩, h2⟩ := hc
  simp only [vop] at hv
  unfold vbin at hv
  split at hv
  ·rename_i m n hx hy
   obtain ⟨e1, -⟩ := chkAr_sound h1 hf hx
   obtain ⟨e2, -⟩ := chkAr_sound h2 hf hy
   have hrun : ∀ v, (binOp op t (.int .i64 m) (.int .i64 n)).run P w = .ok v w → (execOp a.eval o).run P w = .ok (.value v) w := by
    intro v h
    simp [execOp, ho, e1, e2, renS, ren, eqGuard_int, h]
   split at hv
   ·obtain ⟨_, rfl, hv⟩ := hv; exact here hn hh hv rfl rfl (hrun _ rfl)
   ·obtain ⟨_, rfl, hv⟩ := hv; exact here hn hh hv rfl rfl (hrun _ rfl)
   ·obtain ⟨_, rfl, hv⟩ := hv; exact here hn hh hv rfl rfl (hrun _ rfl)
   ·obtain ⟨h0, _, rfl, hv⟩ := hv; exact here hn hh hv rfl rfl (hrun (.int .i64 (w64 (m.tdiv n))) (run_quo h0))
   ·obtain ⟨h0, _, rfl, hv⟩ := hv; exact here hn hh hv rfl rfl (hrun (.int .i64 (m.tmod n)) (run_rem h0))
   ·exact here hn hh hv rfl rfl (hrun _ rfl)
   ·exact here hn hh hv rfl rfl (hrun _ rfl)
   ·exact here hn hh hv rfl rfl (hrun _ rfl)
   ·exact here hn hh hv rfl rfl (hrun _ rfl)
   ·exact here hn hh hv rfl rfl (hrun _ rfl)
   ·exact here hn hh hv rfl rfl (hrun _ rfl)
   ·exact hv.elim
  ·rename_i m n hx hy
   obtain ⟨e1, -⟩ := chkAr_sound h1 hf hx
   obtain ⟨e2, -⟩ := chkAr_sound h2 hf hy
   have hrun : ∀ v, (binOp op t (.int .u8 (m.toNat : Int)) (.int .u8 (n.toNat : Int))).run P w = .ok v w → (execOp a.eval o).run P w = .ok (.value v) w := by
    intro v h
    simp [execOp, ho, e1, e2, renS, ren, eqGuard_int, h]
   split at hv
   ·exact here hn hh hv rfl rfl (hrun _ (by simp [binOp, Op.intCmp, renS, ren, u8_beq]))
   ·exact here hn hh hv rfl rfl (hrun _ (by simp [binOp, Op.intCmp, renS, ren, u8_bne]))
   ·exact hv.elim
  ·exact hv.elim
 ·cases hc

theorem run_eqb {t : TypeId} (h : P.underlying t = some .bool) (p q : Bool) : (Op.equal t (.bool p) (.bool q)).run P w = .ok (p == q) w := by
 have key : ∀ d, (Op.equalIn (d + 1) t (.bool p) (.bool q)).run P w = .ok (p == q) w := by
  intro d
  simp [Op.equalIn, run_underlying' h]
 exact key 9999

theorem s_eqb {neg : Bool} {x' y' : Ar} (hc : chkOp P ρ o.op (.eqb neg x' y') = true) (hf : FRel ρ σ a.tmps fr H.length) (hh : HRel ρ σ w H) (hv : vop P ρ fr H (.eqb neg x' y') K) (hn : Nx ρ σ H w o a K next) : o.wp P a w next Q := by
 simp only [chkOp] at hc
 split at hc
 ·rename_i op t x y yt ho
  simp only [Bool.and_eq_true, decide_eq_true_eq] at hc
  obtain ⟨⟨⟨rfl, h1⟩, h2⟩, h3⟩ := hc
  split at h1
  ·rename_i hu
   simp only [vop] at hv
   split at hv
   ·rename_i p q hx hy
    obtain ⟨e1, -⟩ := chkAr_sound h2 hf hx
    obtain ⟨e2, -⟩ := chkAr_sound h3 hf hy
    refine here hn hh hv rfl rfl ?_
    have h := run_eqb (w := w) hu p q
    cases neg
    ·simp only [Bool.false_eq_true, if_false] at ho
     simp only [execOp, ho, e1, e2, renS, ren, eqGuard, binOp, Sem.run_bind, Sem.run_pure]
     simp
     erw [h]
     rfl
    ·simp only [if_true] at ho
     simp only [execOp, ho, e1, e2, renS, ren, eqGuard, binOp, Sem.run_bind, Sem.run_pure]
     simp
     erw [h]
     rfl
   ·exact hv.elim
  ·cases h1
 ·cases hc

theorem run_eqn {t e : TypeId} (h : P.underlying t = some (.slice e)) (A : Option Addr) (l c : Nat) : (Op.equal t (.slice A l c) (.slice none 0 0)).run P w = .ok A.isNone w := by
 have key : ∀ d, (Op.equalIn (d + 1) t (.slice A l c) (.slice none 0 0)).run P w = .ok A.isNone w := by
  intro d
  cases A <;> simp [Op.equalIn, run_underlying' h]
 exact key 9999

theorem s_eqn {neg : Bool} {y : Ar} (hc : chkOp P ρ o.op (.eqn neg y) = true) (hf : FRel ρ σ a.tmps fr H.length) (hh : HRel ρ σ w H) (hv : vop P ρ fr H (.eqn neg y) K) (hn : Nx ρ σ H w o a K next) : o.wp P a w next Q := by
 simp only [chkOp] at hc
 split at hc
 ·rename_i op t x z yt ho
  simp only [Bool.and_eq_true, decide_eq_true_eq] at hc
  obtain ⟨⟨⟨rfl, h1⟩, h2⟩, h3⟩ := hc
  split at h1
  ·rename_i e hu
   split at h2
   ·have main : ∀ A l c, a.eval x = .slice A l c → (execOp a.eval o).run P w = .ok (.value (.bool (if neg then !A.isNone else A.isNone))) w := by
     intro A l c hx
     have h := run_eqn (w := w) hu A l c
     have ez : a.eval (.const (.slice none 0 0)) = .slice none 0 0 := rfl
     cases neg
     ·simp only [Bool.false_eq_true, if_false] at ho ⊢
      simp only [execOp, ho, hx, ez, eqGuard, binOp, Sem.run_bind, Sem.run_pure]
      simp
      erw [h]
      cases A <;> rfl
     ·simp only [if_true] at ho ⊢
      simp only [execOp, ho, hx, ez, eqGuard, binOp, Sem.run_bind, Sem.run_pure]
      simp
      erw [h]
      cases A <;> rfl
    simp only [vop] at hv
    split at hv
    ·rename_i he
     obtain ⟨e1, -⟩ := chkAr_sound h3 hf he
     refine here hn hh hv rfl rfl ?_
     rw [main _ _ _ e1]
     cases neg <;> rfl
    ·rename_i he
     obtain ⟨e1, -⟩ := chkAr_sound h3 hf he
     refine here hn hh hv rfl rfl ?_
     rw [main _ _ _ e1]
     cases neg <;> rfl
    ·exact hv.elim
   ·cases h2
  ·cases h1
 ·cases hc

theorem s_mkf {f' : Nat} {fs cs : List Ar} (hc : chkOp P ρ o.op (.mkf f' fs cs) = true) (hf : FRel ρ σ a.tmps fr H.length) (hh : HRel ρ σ w H) (hv : vop P ρ fr H (.mkf f' fs cs) K) (hn : Nx ρ σ H w o a K next) : o.wp P a w next Q := by
 simp only [vop] at hv
 split at hv
 ·rename_i l1 l2 he1 he2
  simp only [chkOp] at hc
  split at hc
  ·rename_i fn first caps ho
   simp only [Bool.and_eq_true] at hc
   obtain ⟨⟨h1, h2⟩, h3⟩ := hc
   obtain ⟨q1, m1⟩ := ptrs_sound h2 hf he1
   obtain ⟨q2, m2⟩ := ptrs_sound h3 hf he2
   split at h1
   ·rename_i f
    simp only [beq_iff_eq] at h1
    have hl : (Sv.one (.fn f' l1 l2)).lt H.length = true := by
     simp only [Sv.lt, At.lt, Bool.and_eq_true, List.all_eq_true, decide_eq_true_eq]
     exact ⟨m1, m2⟩
    refine here hn hh hv hl rfl ?_
    have r1 : Array.map a.eval first = (List.map (pv σ) l1).toArray := by apply Array.ext'; rw [Array.toList_map, q1]
    have r2 : Array.map a.eval caps = (List.map (pv σ) l2).toArray := by apply Array.ext'; rw [Array.toList_map, q2]
    simp [execOp, ho, renS, ren, Instr.makeFunc, r1, r2, h1]
   ·cases h1
  ·cases hc
 ·exact hv.elim

theorem s_add {y : Ar} {c : Nat} (hc : chkOp P ρ o.op (.add y c) = true) (hf : FRel ρ σ a.tmps fr H.length) (hh : HRel ρ σ w H) (hv : vop P ρ fr H (.add y c) K) (hn : Nx ρ σ H w o a K next) : o.wp P a w next Q := by
 simp only [vop] at hv
 split at hv
 ·rename_i k off he
  simp only [chkOp] at hc
  split at hc
  ·rename_i s x j ho
   simp only [Bool.and_eq_true] at hc
   obtain ⟨h1, h2⟩ := hc
   obtain ⟨e1, l1⟩ := chkAr_sound h1 hf he
   split at h2
   ·rename_i fields hu
    split at h2
    ·rename_i fd hfd
     simp only [Bool.and_eq_true, beq_iff_eq] at h2
     obtain ⟨h3, h4⟩ := h2
     split at h4
     ·rename_i n hs
      have hn0 : n ≠ 0 := by simpa using h4
      refine here hn hh hv l1 rfl ?_
      simp [execOp, ho, e1, renS, ren, Instr.fieldAt, Sem.run_bind, run_underlying' hu, hfd, Instr.sureAddr, fieldPlace, run_sizeOf' hs, hn0, h3, add_mk]
     ·cases h4
    ·cases h2
   ·cases h2
  ·cases hc
 ·exact hv.elim

theorem s_ext {y : Ar} {j : Nat} (hc : chkOp P ρ o.op (.ext y j) = true) (hf : FRel ρ σ a.tmps fr H.length) (hh : HRel ρ σ w H) (hv : vop P ρ fr H (.ext y j) K) (hn : Nx ρ σ H w o a K next) : o.wp P a w next Q := by
 simp only [vop] at hv
 split at hv
 ·rename_i l he
  split at hv
  ·rename_i v hl
   simp only [chkOp] at hc
   split at hc
   ·rename_i x i ho
    simp only [Bool.and_eq_true, beq_iff_eq] at hc
    obtain ⟨rfl, h1⟩ := hc
    obtain ⟨e1, l1⟩ := chkAr_sound h1 hf he
    have hv1 : v.lt H.length = true := by
     simp only [Sv.lt, List.all_eq_true] at l1
     exact l1 v (List.mem_of_getElem? hl)
    refine here hn hh hv (v := .one v) hv1 rfl ?_
    simp [execOp, ho, e1, renS, Instr.extract, hl]
   ·cases hc
  ·exact hv.elim
 ·exact hv.elim

theorem s_idx {y j : Ar} {len esz : Nat} (hc : chkOp P ρ o.op (.idx y j len esz) = true) (hf : FRel ρ σ a.tmps fr H.length) (hh : HRel ρ σ w H) (hv : vop P ρ fr H (.idx y j len esz) K) (hn : Nx ρ σ H w o a K next) : o.wp P a w next Q := by
 simp only [vop] at hv
 split at hv
 ·rename_i k off z he1 he2
  obtain ⟨xx, _, rfl, hlt, rfl, hv⟩ := hv
  have z0 : (0 : Int) ≤ (xx : Int) := by omega
  have z1 : (xx : Int) < (len : Nat) := by omega
  simp only [chkOp] at hc
  split at hc
  ·rename_i t x i ho
   simp only [Bool.and_eq_true] at hc
   obtain ⟨⟨h1, h2⟩, h3⟩ := hc
   obtain ⟨e1, l1⟩ := chkAr_sound h1 hf he1
   obtain ⟨e2, -⟩ := chkAr_sound h2 hf he2
   split at h3
   ·rename_i l e hu
    simp only [Bool.and_eq_true, beq_iff_eq] at h3
    obtain ⟨rfl, hs⟩ := h3
    refine here hn hh hv l1 rfl ?_
    simp [execOp, ho, e1, e2, renS, ren, Instr.indexAt, asIntOf, Sem.run_bind, run_underlying' hu, Instr.sureAddr, z0, z1, hlt, run_sizeOf' hs, add_mk]
   ·cases h3
  ·cases hc
 ·exact hv.elim

theorem s_ids {y j : Ar} {esz : Nat} (hc : chkOp P ρ o.op (.ids y j esz) = true) (hf : FRel ρ σ a.tmps fr H.length) (hh : HRel ρ σ w H) (hv : vop P ρ fr H (.ids y j esz) K) (hn : Nx ρ σ H w o a K next) : o.wp P a w next Q := by
 simp only [vop] at hv
 split at hv
 ·rename_i k off len cap z he1 he2
  obtain ⟨xx, _, rfl, hlt, rfl, hv⟩ := hv
  have z0 : (0 : Int) ≤ (xx : Int) := by omega
  have z1 : (xx : Int) < (len : Nat) := by omega
  simp only [chkOp] at hc
  split at hc
  ·rename_i t x i ho
   simp only [Bool.and_eq_true] at hc
   obtain ⟨⟨h1, h2⟩, h3⟩ := hc
   obtain ⟨e1, l1⟩ := chkAr_sound h1 hf he1
   obtain ⟨e2, -⟩ := chkAr_sound h2 hf he2
   split at h3
   ·rename_i e hu
    simp only [beq_iff_eq] at h3
    refine here hn hh hv (v := .one (.pt k (off + xx * esz))) l1 rfl ?_
    simp [execOp, ho, e1, e2, renS, ren, Instr.indexAt, asIntOf, Sem.run_bind, run_underlying' hu, z0, z1, hlt, run_sizeOf' h3, add_mk]
   ·cases h3
  ·cases hc
 ·exact hv.elim

theorem s_len {y : Ar} (hc : chkOp P ρ o.op (.len y) = true) (hf : FRel ρ σ a.tmps fr H.length) (hh : HRel ρ σ w H) (hv : vop P ρ fr H (.len y) K) (hn : Nx ρ σ H w o a K next) : o.wp P a w next Q := by
 simp only [chkOp] at hc
 split at hc
 ·rename_i c ho
  simp only [Bool.and_eq_true] at hc
  obtain ⟨⟨h1, h2⟩, h3⟩ := hc
  have hcal : c.callee = .builtin .len := by
   split at h1
   ·assumption
   ·cases h1
  split at h2
  ·rename_i x hx
   split at h3
   ·rename_i t ht
    split at h3
    ·rename_i e hu
     have hargs : c.args = #[x] := by rw [← Array.toList_inj]; simpa using hx
     have htys : c.argTypes = #[t] := by rw [← Array.toList_inj]; simpa using ht
     have hrun : ∀ A n c', a.eval x = .slice A n c' → (execOp a.eval o).run P w = .ok (.value (.int .i64 (n : Int))) w := by
      intro A n c' hx
      simp [execOp, ho, resolve, hcal, hargs, htys, invoke, builtin, Builtin.len_, Sem.run_bind, run_underlying' hu, hx, goInt]
     simp only [vop] at hv
     split at hv
     ·rename_i k off n cap he
      obtain ⟨e1, -⟩ := chkAr_sound h2 hf he
      exact here hn hh hv rfl rfl (hrun _ _ _ e1)
     ·rename_i he
      obtain ⟨e1, -⟩ := chkAr_sound h2 hf he
      refine here hn hh hv rfl rfl ?_
      rw [hrun _ _ _ e1]; rfl
     ·exact hv.elim
    ·cases h3
   ·cases h3
  ·cases h2
 ·cases hc

/-! ### loads -/
theorem s_lda {y : Ar} {h n : Nat} (hc : chkOp P ρ o.op (.lda y h n) = true) (hf : FRel ρ σ a.tmps fr H.length) (hh : HRel ρ σ w H) (hv : vop P ρ fr H (.lda y h n) K) (hn : Nx ρ σ H w o a K next) : o.wp P a w next Q := by
  simp only [vop] at hv
  split at hv
  · rename_i k off he
    split at hv
    · rename_i r hd N f hk
      obtain ⟨T, hT⟩ := blk_of hh hk
      simp only [chkOp] at hc
      split at hc
      · rename_i t x ho
        simp only [Bool.and_eq_true, beq_iff_eq] at hc
        obtain ⟨h1, h2⟩ := hc
        obtain ⟨e1, -⟩ := chkAr_sound h2 hf he
        split at hv
        · obtain ⟨⟨b1, b2⟩, hv⟩ := hv
          refine here hn hh hv rfl rfl ?_
          have := run_loadAgg (P := P) (off := off) (g := fun j => cel [] (sh f off) j) h1 hT (fun j hj => by
            rw [cellsB_by, cellsOf_get _ _ _ _ (by omega), cel_by (by omega), cel_by (by simp)]; rfl)
          simp [execOp, ho, e1, renS, ren, Instr.loadAt, Instr.sureAddr, this, cellsOf]
        · cases off with
          | succ _ => exact hv.elim
          | zero =>
          cases hb : Nat.ble n N with
          | false => rw [hb] at hv; exact hv.elim
          | true =>
          rw [hb] at hv
          have b2 := Nat.le_of_ble_eq_true hb
          refine here hn hh hv rfl rfl ?_
          have := run_loadAgg (P := P) (off := 0) (g := fun j => cel hd f j) h1 hT (fun j hj => by
            rw [cellsB_by, Nat.zero_add, cellsOf_get _ _ _ _ (by omega)])
          simp [execOp, ho, e1, renS, ren, Instr.loadAt, Instr.sureAddr, this, cellsOf]
      · cases hc
    · rename_i r esz l hk
      obtain ⟨j, hd, f, rfl, hj, hle, hv⟩ := hv
      obtain ⟨T, hT⟩ := blk_of hh hk
      simp only [chkOp] at hc
      split at hc
      · rename_i t x ho
        simp only [Bool.and_eq_true, beq_iff_eq] at hc
        obtain ⟨h1, h2⟩ := hc
        obtain ⟨e1, -⟩ := chkAr_sound h2 hf he
        refine here hn hh hv rfl rfl ?_
        have := run_loadAgg (P := P) (off := j * esz) (g := fun x => cel hd f x) h1 hT (fun x hx => gcells_in esz l j x (hd, f) hj (by omega))
        simp [execOp, ho, e1, renS, ren, Instr.loadAt, Instr.sureAddr, this, cellsOf]
      · cases hc
    · exact hv.elim
  · exact hv.elim

theorem s_ld8 {y : Ar} (hc : chkOp P ρ o.op (.ld8 y) = true) (hf : FRel ρ σ a.tmps fr H.length) (hh : HRel ρ σ w H) (hv : vop P ρ fr H (.ld8 y) K) (hn : Nx ρ σ H w o a K next) : o.wp P a w next Q := by
 simp only [vop] at hv
 split at hv
 ·rename_i k off he
  split at hv
  ·rename_i r hd N f hk
   obtain ⟨T, hT⟩ := blk_of hh hk
   obtain ⟨⟨b1, b2⟩, hv⟩ := hv
   simp only [chkOp] at hc
   split at hc
   ·rename_i t x ho
    simp only [Bool.and_eq_true] at hc
    obtain ⟨h1, h2⟩ := hc
    obtain ⟨e1, -⟩ := chkAr_sound h2 hf he
    refine here hn hh hv rfl rfl ?_
    have := run_loadOne (P := P) (off := off) h1 hT (by rw [cellsB_by, cellsOf_get _ _ _ _ b2, cel_by b1])
    simp [execOp, ho, e1, renS, ren, Instr.loadAt, Instr.sureAddr, this]
   ·cases hc
  ·exact hv.elim
 ·exact hv.elim

theorem s_ld1 {y : Ar} (hc : chkOp P ρ o.op (.ld1 y) = true) (hf : FRel ρ σ a.tmps fr H.length) (hh : HRel ρ σ w H) (hv : vop P ρ fr H (.ld1 y) K) (hn : Nx ρ σ H w o a K next) : o.wp P a w next Q := by
  simp only [chkOp] at hc
  split at hc
  · rename_i t x ho
    simp only [Bool.and_eq_true] at hc
    obtain ⟨h1, h2⟩ := hc
    simp only [vop] at hv
    split at hv
    · rename_i k off he
      obtain ⟨e1, -⟩ := chkAr_sound h2 hf he
      have main : ∀ (c : Bk) (T : TypeId) (v : At), w.heap[σ k]? = some (.cells (cellsB ρ σ c) T (0, 0)) → (cellsB ρ σ c)[off]? = some (ren ρ σ v) → v.lt H.length = true → K (.one v) H → o.wp P a w next Q := by
        intro c T v hT hg hl hK
        refine here hn hh hK (v := .one v) hl rfl ?_
        have := run_loadOne (P := P) (off := off) h1 hT hg
        simp [execOp, ho, e1, renS, ren, Instr.loadAt, Instr.sureAddr, this]
      split at hv
      · rename_i r hd N f hk
        obtain ⟨T, hT⟩ := blk_of hh hk
        cases hb : Nat.blt off N with
        | false => rw [hb] at hv; exact hv.elim
        | true =>
        rw [hb] at hv
        have b1 : off < N := Nat.le_of_ble_eq_true hb
        simp only at hv
        split at hv
        · rename_i z hz
          exact main _ T (.i .i64 z) hT (by rw [cellsB_by, cellsOf_get _ _ _ _ b1, cel_hd hz]; rfl) rfl hv
        · exact hv.elim
      · rename_i r v hk
        obtain ⟨T, hT⟩ := blk_of hh hk
        cases off with
        | succ _ => exact hv.elim
        | zero =>
        have hl := hh.clo k _ hk
        simp only [Bk.lt, Bool.and_eq_true] at hl
        exact main _ T v hT (by simp [cellsB]) hl.1 hv
      · rename_i r l hk
        obtain ⟨T, hT⟩ := blk_of hh hk
        obtain ⟨v, hlv, hv⟩ := hv
        have hl := hh.clo k _ hk
        simp only [Bk.lt, List.all_eq_true, Bool.and_eq_true] at hl
        exact main _ T v hT (by simp [cellsB, hlv]) (hl v (List.mem_of_getElem? hlv)).1 hv
      · exact hv.elim
    · exact hv.elim
  · cases hc

theorem s_ixb {y j : Ar} {len : Nat} (hc : chkOp P ρ o.op (.ixb y j len) = true) (hf : FRel ρ σ a.tmps fr H.length) (hh : HRel ρ σ w H) (hv : vop P ρ fr H (.ixb y j len) K) (hn : Nx ρ σ H w o a K next) : o.wp P a w next Q := by
 simp only [vop] at hv
 split at hv
 ·rename_i n f z he1 he2
  obtain ⟨xx, rfl, hlt, hlt2, hv⟩ := hv
  have z0 : (0 : Int) ≤ (xx : Int) := by omega
  have z1 : (xx : Int) < (len : Nat) := by omega
  simp only [chkOp] at hc
  split at hc
  ·rename_i t x i ho
   simp only [Bool.and_eq_true] at hc
   obtain ⟨⟨h1, h2⟩, h3⟩ := hc
   obtain ⟨e1, l1⟩ := chkAr_sound h1 hf he1
   obtain ⟨e2, -⟩ := chkAr_sound h2 hf he2
   split at h3
   ·rename_i l e hu
    simp only [Bool.and_eq_true, beq_iff_eq] at h3
    obtain ⟨⟨rfl, hs⟩, h1⟩ := h3
    refine here hn hh hv rfl rfl ?_
    have hg : (cellsOf [] n f)[xx]? = some (.int .u8 ((f xx).toNat : Int)) := by
     rw [cellsOf_get _ _ _ _ (by omega), cel_by (by simp)]
    simp [execOp, ho, e1, e2, renS, ren, Instr.index, asIntOf, Sem.run_bind, run_underlying' hu, z0, z1, hlt, run_sizeOf' hs, part, run_oneT h1, hg]
   ·cases h3
  ·cases hc
 ·exact hv.elim

theorem s_ixa {y j : Ar} {len esz : Nat} (hc : chkOp P ρ o.op (.ixa y j len esz) = true) (hf : FRel ρ σ a.tmps fr H.length) (hh : HRel ρ σ w H) (hv : vop P ρ fr H (.ixa y j len esz) K) (hn : Nx ρ σ H w o a K next) : o.wp P a w next Q := by
 simp only [vop] at hv
 split at hv
 ·rename_i n f z he1 he2
  obtain ⟨xx, rfl, hlt, hlt2, hv⟩ := hv
  have z0 : (0 : Int) ≤ (xx : Int) := by omega
  have z1 : (xx : Int) < (len : Nat) := by omega
  simp only [chkOp] at hc
  split at hc
  ·rename_i t x i ho
   simp only [Bool.and_eq_true] at hc
   obtain ⟨⟨h1, h2⟩, h3⟩ := hc
   obtain ⟨e1, l1⟩ := chkAr_sound h1 hf he1
   obtain ⟨e2, -⟩ := chkAr_sound h2 hf he2
   split at h3
   ·rename_i l e hu
    simp only [Bool.and_eq_true, beq_iff_eq] at h3
    obtain ⟨rfl, hs⟩ := h3
    obtain ⟨q1, q2⟩ := aggT_spec (w := w) hs
    refine here hn hh hv rfl rfl ?_
    have hg : (cellsOf [] n f).extract (xx * esz) (xx * esz + esz) = cellsOf [] esz (sh f (xx * esz)) := by
     apply Array.ext'
     unfold cellsOf
     simp only [Array.toList_extract, List.extract_eq_take_drop]
     apply cells_ext
     ·simp; omega
     ·intro x hx
      simp [cel, List.getElem?_drop, hx, show xx * esz + x < n by omega]
    simp [execOp, ho, e1, e2, renS, ren, Instr.index, asIntOf, Sem.run_bind, run_underlying' hu, z0, z1, hlt, run_sizeOf' q2, part, q1, hg]
   ·cases h3
  ·cases hc
 ·exact hv.elim

end
end Hf
/- The engine, part 6: stores, new variables, values that are built. -/
namespace Hf
open Go
section
variable {P : Program} {ρ : Nat → FuncId} {σ : Nat → Nat} {H : List Blk} {w : World} {o : Oper} {a : Act} {fr : List (Nat × Sv)} {K : Sv → List Blk → Prop}
variable {next : Act → World → Prop} {Q : Exit → Act → World → Prop}
/-! ### stores -/
theorem store_at (hn : Nx ρ σ H w o a K next) (hh : HRel ρ σ w H) {k off : Nat} {c0 c : Bk} (hk : H[k]? = some ⟨false, c0⟩) (hl : c.lt H.length = true) (hK : K (.tup []) (H.set k ⟨false, c⟩))
  {t : TypeId} {x v : Operand} (ho : o.op = .store t x v) {u : Value} (hx : a.eval x = .pointer (some ⟨σ k, off, none⟩)) (hv : a.eval v = u)
  (hrun : (storeVar t ⟨σ k, off, none⟩ u).run P w = .ok () (w.setRow (σ k) (cellsB ρ σ c))) (hz : frz c = frz c0 := by rfl) : o.wp P a w next Q := by
 refine skip_wp (w' := w.setRow (σ k) (cellsB ρ σ c)) ?_ ?_
 ·simp [execOp, ho, hx, hv, Instr.storeAt, Instr.sureAddr, hrun]
 ·have := hn (.tup []) _ σ _ hK (Sp_store hh hk hl hz) rfl
  exact this

theorem s_sta {y u : Ar} {n : Nat} (hc : chkOp P ρ o.op (.sta y u n) = true) (hf : FRel ρ σ a.tmps fr H.length) (hh : HRel ρ σ w H) (hv : vop P ρ fr H (.sta y u n) K) (hn : Nx ρ σ H w o a K next) : o.wp P a w next Q := by
  simp only [vop] at hv
  split at hv
  · rename_i k off hd' m g he1 he2
    split at hv
    · rename_i hd N f hk
      obtain ⟨T, hT⟩ := blk_of hh hk
      simp only [chkOp] at hc
      split at hc
      · rename_i t x v ho
        simp only [Bool.and_eq_true, beq_iff_eq] at hc
        obtain ⟨⟨h0, h1⟩, h2⟩ := hc
        obtain ⟨e1, -⟩ := chkAr_sound h1 hf he1
        obtain ⟨e2, -⟩ := chkAr_sound h2 hf he2
        split at hv
        · obtain ⟨⟨rfl, b1, b2⟩, hv⟩ := hv
          refine store_at hn hh hk (c := .by hd N (spl f off m g)) rfl hv ho e1 e2 ?_
          have := run_storeAll (P := P) (v := .agg (cellsOf [] m g)) h0 (cellsOf_size _ _ _) hT (by rw [cellsB_by, cellsOf_size]; exact b2) (cellsOf_one _ _ _)
          simp only [renS, ren]
          rw [this]
          simp only [cellsB_by, Value.cells]
          rw [spl_cells b1 b2]
        · rename_i z zs
          cases off with
          | succ _ => exact hv.elim
          | zero =>
          cases hb : (Nat.beq m n && Nat.beq n N && Nat.beq (z :: zs).length hd.length) with
          | false => rw [hb] at hv; exact hv.elim
          | true =>
          rw [hb] at hv
          simp only [Bool.and_eq_true] at hb
          obtain ⟨⟨hb1, hb2⟩, b2⟩ := hb
          obtain rfl := Nat.eq_of_beq_eq_true hb1
          obtain rfl := Nat.eq_of_beq_eq_true hb2
          refine store_at hn hh hk (c := .by (z :: zs) m g) rfl hv ho e1 e2 ?_
          have := run_storeAll (P := P) (off := 0) (v := .agg (cellsOf (z :: zs) m g)) h0 (cellsOf_size _ _ _) hT (by rw [cellsB_by, cellsOf_size]; omega) (cellsOf_one _ _ _)
          simp only [renS, ren]
          rw [this]
          simp only [cellsB_by, Value.cells]
          congr 2
          have hN : (cellsOf hd m f).toList.length = m := by simp [cellsOf]
          rw [List.take_zero, List.nil_append, List.drop_of_length_le (by omega), List.append_nil, Array.toArray_toList]
      · cases hc
    · exact hv.elim
  · exact hv.elim

theorem s_st8 {y u : Ar} (hc : chkOp P ρ o.op (.st8 y u) = true) (hf : FRel ρ σ a.tmps fr H.length) (hh : HRel ρ σ w H) (hv : vop P ρ fr H (.st8 y u) K) (hn : Nx ρ σ H w o a K next) : o.wp P a w next Q := by
 simp only [vop] at hv
 split at hv
 ·rename_i k off c he1 he2
  split at hv
  ·rename_i hd N f hk
   obtain ⟨T, hT⟩ := blk_of hh hk
   obtain ⟨⟨b1, b2⟩, hv⟩ := hv
   simp only [chkOp] at hc
   split at hc
   ·rename_i t x v ho
    simp only [Bool.and_eq_true, beq_iff_eq] at hc
    obtain ⟨⟨h0, h1⟩, h2⟩ := hc
    obtain ⟨e1, -⟩ := chkAr_sound h1 hf he1
    obtain ⟨e2, -⟩ := chkAr_sound h2 hf he2
    refine store_at hn hh hk (c := .by hd N (upd f off c)) rfl hv ho e1 e2 ?_
    have := run_storeAll (P := P) (off := off) (v := .int .u8 (c.toNat : Int)) h0 rfl hT (by rw [cellsB_by, cellsOf_size]; omega) (by simp [Value.cells, Value.oneCell'])
    simp only [renS, ren]
    rw [this]
    simp only [cellsB_by, Value.cells]
    rw [← upd_cells b1 b2]
   ·cases hc
  ·exact hv.elim
 ·exact hv.elim

theorem s_st1 {y u : Ar} (hc : chkOp P ρ o.op (.st1 y u) = true) (hf : FRel ρ σ a.tmps fr H.length) (hh : HRel ρ σ w H) (hv : vop P ρ fr H (.st1 y u) K) (hn : Nx ρ σ H w o a K next) : o.wp P a w next Q := by
  simp only [chkOp] at hc
  split at hc
  · rename_i t x v ho
    simp only [Bool.and_eq_true, beq_iff_eq] at hc
    obtain ⟨⟨h0, h1⟩, h2⟩ := hc
    simp only [vop] at hv
    split at hv
    · rename_i k off b he1 he2
      obtain ⟨e1, -⟩ := chkAr_sound h1 hf he1
      obtain ⟨e2, l2⟩ := chkAr_sound h2 hf he2
      have main : ∀ (c0 c : Bk) (T : TypeId), frz c = frz c0 → b.cell1 = true → H[k]? = some ⟨false, c0⟩ → w.heap[σ k]? = some (.cells (cellsB ρ σ c0) T (0, 0)) → c.lt H.length = true → off < (cellsB ρ σ c0).size →
          ((cellsB ρ σ c0).toList.take off ++ [ren ρ σ b] ++ (cellsB ρ σ c0).toList.drop (off + 1)).toArray = cellsB ρ σ c → K (.tup []) (H.set k ⟨false, c⟩) → o.wp P a w next Q := by
        intro c0 c T hfz hb hk hT hl hlt heq hK
        refine store_at hn hh hk hl hK ho e1 e2 ?_ hfz
        obtain ⟨o1, o2⟩ := ren_one (ρ := ρ) (σ := σ) hb
        have := run_storeAll (P := P) (off := off) (v := ren ρ σ b) h0 (by rw [o2]; rfl) hT (by omega) (by rw [o2]; simpa using o1)
        simp only [renS]
        rw [this, o2, ← heq]
      split at hv
      · rename_i hd N f hk
        obtain ⟨T, hT⟩ := blk_of hh hk
        split at hv
        · rename_i z
          cases hb : (Nat.blt off hd.length && Nat.blt off N) with
          | false => rw [hb] at hv; exact hv.elim
          | true =>
          rw [hb] at hv
          simp only [Bool.and_eq_true] at hb
          have b1 : off < hd.length := Nat.le_of_ble_eq_true hb.1
          have b2 : off < N := Nat.le_of_ble_eq_true hb.2
          exact main (.by hd N f) (.by (hd.set off z) N f) T rfl rfl hk hT rfl (by rw [cellsB_by, cellsOf_size]; exact b2) (by rw [cellsB_by, cellsB_by]; exact hdset_cells b1 b2) hv
        · exact hv.elim
      · rename_i c hk
        obtain ⟨T, hT⟩ := blk_of hh hk
        cases off with
        | succ _ => exact hv.elim
        | zero =>
        cases hb : b.cell1 with
        | false => rw [hb] at hv; exact hv.elim
        | true =>
        rw [hb] at hv
        exact main (.vr c) (.vr b) T rfl hb hk hT (by simp [Bk.lt, hb]; exact l2) (by simp [cellsB]) (by simp [cellsB]) hv
      · rename_i l hk
        obtain ⟨T, hT⟩ := blk_of hh hk
        obtain ⟨⟨hlt, hb⟩, hv⟩ := hv
        refine main (.rw l) (.rw (l.set off b)) T rfl hb hk hT ?_ (by simp [cellsB, hlt]) ?_ hv
        · have hl := hh.clo k _ hk
          simp only [Bk.lt, List.all_eq_true, Bool.and_eq_true] at hl ⊢
          intro c hc
          rcases List.mem_or_eq_of_mem_set hc with hc | rfl
          · exact hl c hc
          · exact ⟨l2, hb⟩
        · simp only [cellsB, List.map_set]
          rw [List.set_eq_take_append_cons_drop]
          simp [hlt]
      · exact hv.elim
    · exact hv.elim
  · cases hc

/-! ### new variables -/
theorem new_at (hn : Nx ρ σ H w o a K next) (hh : HRel ρ σ w H) {c : Bk} {T : TypeId} {v : Sv} (hl : c.lt H.length = true) (hv : v.lt (H.length + 1) = true) (hK : K v (H ++ [⟨false, c⟩]))
  {x : Value} (hx : x = renS ρ (setAt σ H.length w.heap.size) v)
  (hrun : (execOp a.eval o).run P w = .ok (.value x) { w with heap := w.heap.push (.cells (cellsB ρ σ c) T) }) (hz : frz c = (0, 0) := by rfl) : o.wp P a w next Q := by
 refine value_wp hrun ?_
 rw [hx]
 exact hn v _ _ _ hK (Sp_alloc hh c hl T hz) (by simpa using hv)

theorem zI_eq {v : Value} (h : zI v = true) : v = .int .i64 0 := by
 unfold zI at h
 split at h
 ·simp only [Bool.and_eq_true, beq_iff_eq] at h; obtain ⟨rfl, rfl⟩ := h; rfl
 ·cases h
theorem zU_eq {v : Value} (h : zU v = true) : v = .int .u8 0 := by
 unfold zU at h
 split at h
 ·simp only [Bool.and_eq_true, beq_iff_eq] at h; obtain ⟨rfl, rfl⟩ := h; rfl
 ·cases h
theorem zl_eq : ∀ (l : List Value) (h n : Nat), zl l h n = true → l.length = n ∧ ∀ x, x < n → l[x]? = some (if x < h then .int .i64 0 else .int .u8 0)
  | [], 0, 0, _ => by simp
  | v :: r, h + 1, n + 1, e => by
    simp only [zl, Bool.and_eq_true] at e
    obtain ⟨i1, i2⟩ := zl_eq r h n e.2
    refine ⟨by simp [i1], fun x hx => ?_⟩
    cases x with
    | zero => simp [zI_eq e.1]
    | succ x => rw [List.getElem?_cons_succ, i2 x (by omega)]; simp
  | v :: r, 0, n + 1, e => by
    simp only [zl, Bool.and_eq_true] at e
    obtain ⟨i1, i2⟩ := zl_eq r 0 n e.2
    refine ⟨by simp [i1], fun x hx => ?_⟩
    cases x with
    | zero => simp [zU_eq e.1]
    | succ x => rw [List.getElem?_cons_succ, i2 x (by omega)]; simp
  | [], _ + 1, _, e => by simp [zl] at e
  | [], 0, _ + 1, e => by simp [zl] at e
  | _ :: _, _, 0, e => by simp [zl] at e

theorem zcells_sound {v : Value} {z : Zk} (h : zcells v z = true) : v.cells = cellsB ρ σ z.bk ∧ z.bk.lt H.length = true := by
 unfold zcells at h
 split at h
 ·rename_i cs hh n
  obtain ⟨h1, h2⟩ := zl_eq _ _ _ h
  refine ⟨?_, rfl⟩
  simp only [Value.cells, Zk.bk, cellsB, cellsOf]
  apply Array.ext'
  simp only
  apply cells_ext h1
  intro x hx
  rw [h2 x hx]
  unfold cel
  by_cases hx' : x < hh
  ·simp [hx']
  ·simp [hx']
 ·simp only [Bool.and_eq_true, beq_iff_eq] at h; obtain ⟨rfl, rfl⟩ := h; exact ⟨rfl, rfl⟩
 ·simp only [Bool.and_eq_true, beq_iff_eq] at h; obtain ⟨rfl, rfl⟩ := h; exact ⟨rfl, rfl⟩
 ·simp only [Bool.not_eq_true'] at h; subst h; exact ⟨rfl, rfl⟩
 ·exact ⟨rfl, rfl⟩
 ·exact ⟨rfl, rfl⟩
 ·cases h

theorem zeroOk_sound {t : TypeId} {z : Zk} (h : zeroOk P t z = true) : ∃ v, (zeroValue t).run P w = .ok v w ∧ v.cells = cellsB ρ σ z.bk ∧ z.bk.lt H.length = true := by
 unfold zeroOk at h
 split at h
 ·rename_i v hv
  obtain ⟨i, hi, hz⟩ := Option.bind_eq_some_iff.1 hv
  obtain ⟨h1, h2⟩ := zcells_sound (ρ := ρ) (σ := σ) (H := H) h
  exact ⟨v, by simp [zeroValue, typeInfo, hi, hz], h1, h2⟩
 ·cases h

theorem s_alo {z : Zk} (hc : chkOp P ρ o.op (.alo z) = true) (hf : FRel ρ σ a.tmps fr H.length) (hh : HRel ρ σ w H) (hv : vop P ρ fr H (.alo z) K) (hn : Nx ρ σ H w o a K next) : o.wp P a w next Q := by
 simp only [vop] at hv
 simp only [chkOp] at hc
 split at hc
 ·rename_i t ho
  obtain ⟨v, h1, h2, h3⟩ := zeroOk_sound (ρ := ρ) (σ := σ) (H := H) (w := w) hc
  obtain ⟨_, rfl, hv⟩ := hv
  refine new_at (T := t) hn hh h3 (v := .one (.pt H.length 0)) (by simp [Sv.lt, At.lt]) hv (x := .pointer (some ⟨w.heap.size, 0, none⟩)) (by simp [renS, ren, setAt_same]) ?_ (by cases z <;> rfl)
  simp [execOp, ho, Instr.alloc, h1, newVar, newRow, h2]
 ·cases hc

/-! ### built values -/
theorem fold_set (off : Nat) : ∀ (l : List (Value × Nat)) (cs : Array Value), (l.foldl (fun cs (p : Value × Nat) => cs.setIfInBounds (off + p.2) p.1) cs).size = cs.size
  | [], _ => rfl
  | p :: l, cs => by rw [List.foldl_cons, fold_set off l]; simp

theorem fold_get (off : Nat) : ∀ (vs : List Value) (j : Nat) (cs : Array Value) (x : Nat), off + j + vs.length ≤ cs.size →
    ((vs.zipIdx j).foldl (fun cs (p : Value × Nat) => cs.setIfInBounds (off + p.2) p.1) cs)[x]? = if off + j ≤ x ∧ x < off + j + vs.length then vs[x - (off + j)]? else cs[x]?
  | [], j, cs, x, _ => by rw [if_neg (by simp only [List.length_nil]; omega)]; rfl
  | v :: vs, j, cs, x, h => by
    simp only [List.length_cons] at h
    rw [List.zipIdx_cons, List.foldl_cons, fold_get off vs (j + 1) _ x (by rw [Array.size_setIfInBounds]; omega)]
    by_cases h1 : x = off + j
    · subst h1
      rw [if_neg (by omega), if_pos (by simp)]
      have hlt : off + j < cs.size := by omega
      simp [hlt]
    · by_cases h2 : off + (j + 1) ≤ x ∧ x < off + (j + 1) + vs.length
      · rw [if_pos h2, if_pos (by simp only [List.length_cons]; omega)]
        have : x - (off + j) = (x - (off + (j + 1))) + 1 := by omega
        rw [this, List.getElem?_cons_succ]
      · rw [if_neg h2, if_neg (by simp only [List.length_cons]; omega), Array.getElem?_setIfInBounds_ne (Ne.symm h1)]

theorem fold_zip (off : Nat) (v cs : Array Value) : v.zipIdx.foldl (fun cs (x : Value × Nat) => match x with | (c, j) => cs.setIfInBounds (off + j) c) cs = (v.toList.zipIdx 0).foldl (fun cs (p : Value × Nat) => cs.setIfInBounds (off + p.2) p.1) cs := by
 rw [← Array.foldl_toList, Array.toList_zipIdx]

/-- one part laid in -/
theorem part_cells {hd hd' : List Int} {n : Nat} {f f' : By} {off : Nat} {v : Value} (hle : off + v.cells.size ≤ n)
  (hin : ∀ x, off ≤ x → x < off + v.cells.size → v.cells[x - off]? = some (cel hd' f' x)) (hout : ∀ x, x < off ∨ off + v.cells.size ≤ x → cel hd' f' x = cel hd f x) :
  v.cells.zipIdx.foldl (fun cs (x : Value × Nat) => match x with | (c, j) => cs.setIfInBounds (off + j) c) (cellsOf hd n f) = cellsOf hd' n f' := by
 rw [fold_zip]
 apply Array.ext_getElem?
 intro x
 rw [fold_get off _ 0 _ x (by rw [cellsOf_size]; simpa using hle)]
 simp only [Nat.add_zero, Array.length_toList]
 by_cases h : off ≤ x ∧ x < off + v.cells.size
 ·rw [if_pos h]
  have := hin x h.1 h.2
  rw [cellsOf_get _ _ _ _ (by omega), ← this]
  simp
 ·rw [if_neg h]
  by_cases hx : x < n
  ·rw [cellsOf_get _ _ _ _ hx, cellsOf_get _ _ _ _ hx, hout x (by omega)]
  ·rw [Array.getElem?_eq_none (by rw [cellsOf_size]; omega), Array.getElem?_eq_none (by rw [cellsOf_size]; omega)]

theorem cel_set {hd : List Int} {f : By} {off x : Nat} {z : Int} (h : off < hd.length) : cel (hd.set off z) f x = if x = off then .int .i64 z else cel hd f x := by
 unfold cel
 by_cases hx : x = off
 ·subst hx; simp [h]
 ·rw [List.getElem?_set_ne (Ne.symm hx), if_neg hx]

theorem lay_fill {n : Nat} {place : Nat → Option (Nat × Nat)} {K : Sv → Prop} : ∀ {xs : List (Nat × Operand)} {ps : List (Nat × Nat × Ar)} {hd : List Int} {f : By}, chkPs P ρ place xs ps = true → FRel ρ σ a.tmps fr H.length → lay fr K n ps hd f → hd.length ≤ n →
    ∃ hd' f', Instr.fill place (cellsOf hd n f) (xs.map fun p => (p.1, a.eval p.2)) = some (cellsOf hd' n f') ∧ K (.one (.ag hd' n f'))
  | [], [], hd, f, _, _, h, _ => ⟨hd, f, rfl, h⟩
  | (i, x) :: xs, (off, sz, y) :: ps, hd, f, hc, hf, h, hhd => by
    simp only [chkPs, Bool.and_eq_true] at hc
    obtain ⟨⟨h1, h2⟩, h3⟩ := hc
    split at h1
    · rename_i o' s hp
      simp only [Bool.and_eq_true, beq_iff_eq] at h1
      obtain ⟨rfl, rfl⟩ := h1
      have main : ∀ (v : Value) (hd' : List Int) (f' : By), a.eval x = v → hd'.length ≤ n → v.cells.size = s → o' + s ≤ n → (∀ x, o' ≤ x → x < o' + v.cells.size → v.cells[x - o']? = some (cel hd' f' x)) →
          (∀ x, x < o' ∨ o' + v.cells.size ≤ x → cel hd' f' x = cel hd f x) → lay fr K n ps hd' f' → ∃ hd'' f'', Instr.fill place (cellsOf hd n f) (((i, x) :: xs).map fun p => (p.1, a.eval p.2)) = some (cellsOf hd'' n f'') ∧ K (.one (.ag hd'' n f'')) := by
        intro v hd' f' hx hl hs hle hin hout hlay
        obtain ⟨hd'', f'', e1, e2⟩ := lay_fill (xs := xs) h3 hf hlay hl
        refine ⟨hd'', f'', ?_, e2⟩
        simp only [List.map_cons, Instr.fill, hp, hx, hs, cellsOf_size]
        rw [if_neg (by simp; omega)]
        rw [part_cells (by omega) hin hout]
        exact e1
      simp only [lay] at h
      split at h
      · rename_i z he
        obtain ⟨e1, -⟩ := chkAr_sound h2 hf he
        cases hb : (Nat.blt o' hd.length && Nat.beq s 1) with
        | false => rw [hb] at h; exact h.elim
        | true =>
        rw [hb] at h
        simp only [Bool.and_eq_true] at hb
        have b1 : o' < hd.length := Nat.le_of_ble_eq_true hb.1
        obtain rfl := Nat.eq_of_beq_eq_true hb.2
        refine main _ (hd.set o' z) f e1 (by simpa using hhd) rfl (by omega) ?_ ?_ h
        · intro u h1 h2
          have hu : u = o' := by simp [renS, ren, Value.cells] at h2; omega
          subst hu
          rw [cel_set b1, if_pos rfl]
          simp [renS, ren, Value.cells]
        · intro u hu
          rw [cel_set b1, if_neg]
          simp [renS, ren, Value.cells] at hu; omega
      · rename_i c he
        obtain ⟨e1, -⟩ := chkAr_sound h2 hf he
        cases hb : (Nat.ble hd.length o' && Nat.blt o' n && Nat.beq s 1) with
        | false => rw [hb] at h; exact h.elim
        | true =>
        rw [hb] at h
        simp only [Bool.and_eq_true] at hb
        have b1 := Nat.le_of_ble_eq_true hb.1.1
        have b2 : o' < n := Nat.le_of_ble_eq_true hb.1.2
        obtain rfl := Nat.eq_of_beq_eq_true hb.2
        refine main _ hd (upd f o' c) e1 hhd rfl (by omega) ?_ ?_ h
        · intro u h1 h2
          have hu : u = o' := by simp [renS, ren, Value.cells] at h2; omega
          subst hu
          rw [cel_by b1, upd_same]
          simp [renS, ren, Value.cells]
        · intro u hu
          unfold cel
          rw [upd_ne]
          simp [renS, ren, Value.cells] at hu; omega
      · rename_i m g he
        obtain ⟨e1, -⟩ := chkAr_sound h2 hf he
        cases hb : (Nat.ble hd.length o' && Nat.ble (o' + m) n && Nat.beq s m) with
        | false => rw [hb] at h; exact h.elim
        | true =>
        rw [hb] at h
        simp only [Bool.and_eq_true] at hb
        have b1 := Nat.le_of_ble_eq_true hb.1.1
        have b2 := Nat.le_of_ble_eq_true hb.1.2
        obtain rfl := Nat.eq_of_beq_eq_true hb.2
        refine main _ hd (spl f o' s g) e1 hhd (by simp [renS, ren, Value.cells, cellsOf_size]) b2 ?_ ?_ h
        · intro u h1 h2
          simp only [renS, ren, Value.cells, cellsOf_size] at h2 ⊢
          rw [cellsOf_get _ _ _ _ (by omega), cel_by (hd := hd) (by omega), cel_by (by simp)]
          simp [spl, h1, h2]
        · intro u hu
          simp only [renS, ren, Value.cells, cellsOf_size] at hu
          unfold cel spl
          rw [if_neg (by omega)]
      · exact h.elim
    · cases h1
  | [], _ :: _, _, _, hc, _, _, _ => by simp [chkPs] at hc
  | _ :: _, [], _, _, hc, _, _, _ => by simp [chkPs] at hc

theorem mapM_fields {fields : List Field} (h : fields.all (fun f => (sizeT P f.type).isSome) = true) :
    (fields.mapM (m := Sem) fun f => do pure (f.offset, ← Go.sizeOf f.type)).run P w = .ok (fields.map fun f => (f.offset, (sizeT P f.type).getD 0)) w := by
  induction fields with
  | nil => rfl
  | cons f r ih =>
    simp only [List.all_cons, Bool.and_eq_true] at h
    obtain ⟨n, hn⟩ := Option.isSome_iff_exists.1 h.1
    rw [List.mapM_cons]
    simp only [Sem.run_bind, run_sizeOf' hn, Result.andThen_ok, Sem.run_pure, ih h.2, List.map_cons, hn, Option.getD_some]

theorem zl_le : ∀ (l : List Value) (h n : Nat), zl l h n = true → h ≤ n
  | [], 0, _, _ => by omega
  | [], _ + 1, _, e => by simp [zl] at e
  | _ :: _, 0, _, _ => by omega
  | _ :: _, _ + 1, 0, e => by simp [zl] at e
  | _ :: r, h + 1, n + 1, e => by
    simp only [zl, Bool.and_eq_true] at e
    have := zl_le r h n e.2
    omega
theorem zeroOk_le {t : TypeId} {h n : Nat} (h0 : zeroOk P t (.by h n) = true) : h ≤ n := by
  unfold zeroOk at h0
  cases hz : (P.info? t).bind (·.zero) with
  | none => rw [hz] at h0; cases h0
  | some v =>
    rw [hz] at h0
    cases v with
    | agg cs => exact zl_le _ _ _ h0
    | pointer q => cases q <;> cases h0
    | slice q l c => cases q <;> simp [zcells] at h0
    | _ => cases h0

theorem s_bld {h n : Nat} {ps : List (Nat × Nat × Ar)} (hc : chkOp P ρ o.op (.bld h n ps) = true) (hf : FRel ρ σ a.tmps fr H.length) (hh : HRel ρ σ w H) (hv : vop P ρ fr H (.bld h n ps) K) (hn : Nx ρ σ H w o a K next) : o.wp P a w next Q := by
  simp only [vop] at hv
  simp only [chkOp] at hc
  split at hc
  · rename_i t parts ho
    simp only [Bool.and_eq_true] at hc
    obtain ⟨h0, h1⟩ := hc
    obtain ⟨z, hz1, hz2, -⟩ := zeroOk_sound (ρ := ρ) (σ := σ) (H := H) (w := w) h0
    have hz : z.cells = cellsOf (List.replicate h 0) n (fun _ => 0) := hz2
    have hhn : h ≤ n := zeroOk_le h0
    have fin : ∀ (place : Nat → Option (Nat × Nat)), chkPs P ρ place parts.toList ps = true →
        (∀ cells, Instr.fill place z.cells ((parts.map fun p => (p.1, a.eval p.2)).toList) = some cells → (execOp a.eval o).run P w = .ok (.value (.agg cells)) w) → o.wp P a w next Q := by
      intro place hps hrun
      obtain ⟨hd', f', e1, e2⟩ := lay_fill (a := a) (n := n) hps hf hv (by simpa using hhn)
      refine here hn hh e2 rfl rfl ?_
      refine hrun _ ?_
      rw [hz, Array.toList_map]
      exact e1
    split at h1
    · rename_i fields hu
      simp only [Bool.and_eq_true] at h1
      obtain ⟨h2, h3⟩ := h1
      have h3' : fields.toList.all (fun f => (sizeT P f.type).isSome) = true := by rw [← h3]; simp
      refine fin _ h2 ?_
      intro cells hfill
      have hm : (fields.mapM (m := Sem) fun f => do pure (f.offset, ← Go.sizeOf f.type)).run P w = .ok (fields.toList.map fun f => (f.offset, (sizeT P f.type).getD 0)).toArray w := by
        rw [Array.mapM_eq_mapM_toList, Sem.run_map, mapM_fields h3', Result.andThen_ok]
      have hpl : (fun (i : Nat) => (fields.toList.map fun f => (f.offset, (sizeT P f.type).getD 0)).toArray[i]?) = (fun (i : Nat) => match fields[i]? with | some (f : Field) => (match sizeT P f.type with | some s => some (f.offset, s) | none => none) | none => none) := by
        funext i
        simp only [List.getElem?_toArray, List.getElem?_map, Array.getElem?_toList]
        cases hfi : fields[i]? with
        | none => rfl
        | some f =>
          have hmem : f ∈ fields.toList := by
            rw [Array.mem_toList_iff]; exact Array.mem_of_getElem? hfi
          obtain ⟨s, hs⟩ := Option.isSome_iff_exists.1 (List.all_eq_true.1 h3' f hmem)
          simp [hs]
      simp only [execOp, ho, Instr.build, Sem.run_bind, hz1, Result.andThen_ok, run_underlying' hu, hm]
      rw [hpl]
      split
      · rename_i c heq
        have := heq.symm.trans hfill
        cases this
        rfl
      · rename_i hne
        exact absurd hfill (hne _)
    · rename_i l e hu
      split at h1
      · rename_i s hs
        refine fin _ h1 ?_
        intro cells hfill
        simp only [execOp, ho, Instr.build, Sem.run_bind, hz1, Result.andThen_ok, run_underlying' hu, run_sizeOf' hs]
        split
        · rename_i c heq
          have := heq.symm.trans hfill
          cases this
          rfl
        · rename_i hne
          exact absurd hfill (hne _)
      · cases h1
    · cases h1
  · cases hc

theorem s_box {y : Ar} (hc : chkOp P ρ o.op (.box y) = true) (hf : FRel ρ σ a.tmps fr H.length) (hh : HRel ρ σ w H) (hv : vop P ρ fr H (.box y) K) (hn : Nx ρ σ H w o a K next) : o.wp P a w next Q := by
 simp only [chkOp] at hc
 split at hc
 ·rename_i t x ho
  have main : ∀ (c : Bk) (v : Value), frz c = (0, 0) → a.eval x = v → v.cells = cellsB ρ σ c → c.lt H.length = true → K (.one (.pt H.length 0)) (H ++ [⟨false, c⟩]) → o.wp P a w next Q := by
   intro c v hfz hx hcs hl hK
   refine new_at (T := t) hn hh hl (v := .one (.pt H.length 0)) (by simp [Sv.lt, At.lt]) hK (x := .pointer (some ⟨w.heap.size, 0, none⟩)) (by simp [renS, ren, setAt_same]) ?_ hfz
   simp [execOp, ho, Instr.box, newVar, newRow, hx, hcs]
  simp only [vop] at hv
  split at hv
  ·rename_i hd n f he
   obtain ⟨e1, -⟩ := chkAr_sound hc hf he
   obtain ⟨_, rfl, hv⟩ := hv
   exact main (.by hd n f) _ rfl e1 rfl rfl hv
  ·exact hv.elim
  ·rename_i v hne hne' he
   obtain ⟨e1, l1⟩ := chkAr_sound hc hf he
   have h1 : v.cell1 = true := by
    cases v <;> first | rfl | exact (hne _ _ _ rfl).elim | exact (hne' _ rfl).elim
   obtain ⟨_, rfl, hv⟩ := hv
   refine main (.vr v) _ rfl e1 (ren_one h1).2 ?_ hv
   simp only [Bk.lt, Bool.and_eq_true]
   exact ⟨l1, h1⟩
  ·exact hv.elim
 ·cases hc

end
end Hf
/- The engine, part 7: arrays compared; slices that are built, and cut. -/
namespace Hf
open Go
section
variable {P : Program} {ρ : Nat → FuncId} {σ : Nat → Nat} {H : List Blk} {w : World} {o : Oper} {a : Act} {fr : List (Nat × Sv)} {K : Sv → List Blk → Prop}
variable {next : Act → World → Prop} {Q : Exit → Act → World → Prop}
theorem eqB_iff {n : Nat} {f g : By} : eqB n f g = true ↔ ∀ x, x < n → f x = g x := by
 simp [eqB, List.all_eq_true, List.mem_range]

theorem eqB_blocks (len m : Nat) (f g : By) : eqB (len * m) f g = (List.range' 0 len).all fun i => eqB m (sh f (i * m)) (sh g (i * m)) := by
 rw [Bool.eq_iff_iff, eqB_iff, List.all_eq_true]
 constructor
 ·intro h i hi
  rw [eqB_iff]
  intro x hx
  simp only [List.mem_range'_1, Nat.zero_add] at hi
  refine h _ ?_
  calc i * m + x < i * m + m := by omega
   _ = (i + 1) * m := by rw [Nat.add_mul, Nat.one_mul]
   _ ≤ len * m := Nat.mul_le_mul_right m (by omega)
 ·intro h x hx
  have hm : 0 < m := by
   rcases Nat.eq_zero_or_pos m with rfl | h
   ·simp at hx
   ·exact h
  have hi : x / m < len := by rw [Nat.div_lt_iff_lt_mul hm]; exact hx
  have := h (x / m) (by simp only [List.mem_range'_1, Nat.zero_add]; exact ⟨Nat.zero_le _, hi⟩)
  rw [eqB_iff] at this
  have h2 := this (x % m) (Nat.mod_lt _ hm)
  simp only [sh] at h2
  have e : x / m * m + x % m = x := by rw [Nat.mul_comm]; exact Nat.div_add_mod x m
  rwa [e] at h2

theorem loop_all {E : Nat → Sem Bool} {b : Nat → Bool} : ∀ (l : List Nat), (∀ i ∈ l, (E i).run P w = .ok (b i) w) →
    (forIn (m := Sem) l ((none, ()) : Option Bool × Unit) fun i _ => do
      let r ← E i
      if (!r) = true then pure (ForInStep.done (some false, ())) else pure (ForInStep.yield (none, ()))).run P w = .ok (if l.all b then (none, ()) else (some false, ())) w
  | [], _ => rfl
  | i :: l, h => by
    rw [List.forIn_cons]
    simp only [Sem.run_bind, h i (by simp), Result.andThen_ok]
    cases hb : b i
    · simp [hb]
    · simp only [Bool.not_true, Bool.false_eq_true, if_false, Sem.run_pure, Result.andThen_ok]
      rw [loop_all l fun j hj => h j (by simp [hj])]
      simp [hb]

theorem part_arr {e : TypeId} {m : Nat} (hs : sizeT P e = some m) {d : TypeDesc} (hu : P.underlying e = some d) (hd : aggB d = true) {n i : Nat} {f : By} (hle : i * m + m ≤ n) :
  (part e (cellsOf [] n f) (i * m)).run P w = .ok (.agg (cellsOf [] m (sh f (i * m)))) w := by
 unfold part
 rw [Sem.run_bind, run_isAgg' hu, hd]
 simp only [Result.andThen_ok, if_true, Sem.run_bind, run_sizeOf' hs, Sem.run_pure]
 congr 2
 apply Array.ext'
 unfold cellsOf
 simp only [Array.toList_extract, List.extract_eq_take_drop]
 apply cells_ext
 ·simp; omega
 ·intro x hx
  simp [cel, List.getElem?_drop, hx, show i * m + x < n by omega]

theorem part_u8 {e : TypeId} (h1 : oneT P e = true) {n i : Nat} {f : By} (hlt : i < n) :
  (part e (cellsOf [] n f) i).run P w = .ok (.int .u8 ((f i).toNat : Int)) w := by
 unfold part
 rw [Sem.run_bind, run_oneT h1]
 simp only [Result.andThen_ok, Bool.false_eq_true, if_false]
 rw [cellsOf_get _ _ _ _ hlt, cel_by (by simp)]
 rfl

theorem eq_arr : ∀ (d : Nat) (t : TypeId) (n : Nat), arrT P d t n = true → (∃ len e, P.underlying t = some (.array len e)) → ∀ D, d ≤ D → ∀ f g, (Op.equalIn D t (.agg (cellsOf [] n f)) (.agg (cellsOf [] n g))).run P w = .ok (eqB n f g) w
  | 0, _, _, h, _, _, _, _, _ => by simp [arrT] at h
  | d + 1, t, n, h, ⟨len, e, hu⟩, D, hD, f, g => by
    obtain ⟨D, rfl⟩ : ∃ D', D = D' + 1 := ⟨D - 1, by omega⟩
    simp only [arrT, hu, Bool.and_eq_true] at h
    obtain ⟨-, h⟩ := h
    split at h
    · rename_i m hs
      simp only [Bool.and_eq_true, beq_iff_eq] at h
      obtain ⟨⟨rfl, h1⟩, h2⟩ := h
      unfold Op.equalIn
      simp only [Sem.run_bind, run_underlying' hu, Result.andThen_ok, run_sizeOf' hs, Std.Legacy.Range.forIn_eq_forIn_range']
      have hsz : ([:len] : Std.Legacy.Range).size = len := by simp [Std.Legacy.Range.size]
      rw [hsz]
      have hbl := eqB_blocks len m f g
      have body : ∀ i ∈ List.range' 0 len, ((do
          let x ← part e (cellsOf [] (len * m) f) (i * m)
          let y ← part e (cellsOf [] (len * m) g) (i * m)
          Op.equalIn D e x y : Sem Bool)).run P w = .ok (eqB m (sh f (i * m)) (sh g (i * m))) w := by
        intro i hi
        simp only [List.mem_range'_1, Nat.zero_add] at hi
        have hle : i * m + m ≤ len * m := by
          calc i * m + m = (i + 1) * m := by rw [Nat.add_mul, Nat.one_mul]
            _ ≤ len * m := Nat.mul_le_mul_right m (by omega)
        split at h2
        · rename_i k hk
          have ho : oneT P e = true := by simp [oneT, hk, aggB]
          cases d with
          | zero => simp [arrT] at h1
          | succ d =>
            simp only [arrT, hk, Bool.and_eq_true] at h1
            obtain ⟨-, h1⟩ := h1
            have hk8 : k = .u8 ∧ m = 1 := by
              split at h1
              · rename_i heq; cases heq; exact ⟨rfl, by simpa using h1⟩
              · rename_i heq; cases heq
              · cases h1
            obtain ⟨rfl, rfl⟩ := hk8
            obtain ⟨D, rfl⟩ : ∃ D', D = D' + 1 := ⟨D - 1, by omega⟩
            simp only [Nat.mul_one] at hle ⊢
            simp only [Sem.run_bind, part_u8 ho (show i < len by omega), Result.andThen_ok]
            unfold Op.equalIn
            simp only [Sem.run_bind, run_underlying' hk, Result.andThen_ok, if_true, Sem.run_pure, u8_beq]
            congr 1
            simp [eqB, sh]
        · rename_i l' e' hk
          simp only [Sem.run_bind, part_arr hs hk rfl hle, Result.andThen_ok]
          exact eq_arr d e m h1 ⟨l', e', hk⟩ D (by omega) _ _
        · cases h2
      have := loop_all (P := P) (w := w) (b := fun i => eqB m (sh f (i * m)) (sh g (i * m))) (List.range' 0 len) body
      simp only [bind_assoc] at this
      rw [this, hbl]
      simp only [Result.andThen_ok]
      generalize ((List.range' 0 len).all fun i => eqB m (sh f (i * m)) (sh g (i * m))) = B
      cases B <;> rfl
    · cases h

theorem s_eqa {neg : Bool} {n : Nat} {x' y' : Ar} (hc : chkOp P ρ o.op (.eqa neg n x' y') = true) (hf : FRel ρ σ a.tmps fr H.length) (hh : HRel ρ σ w H) (hv : vop P ρ fr H (.eqa neg n x' y') K) (hn : Nx ρ σ H w o a K next) : o.wp P a w next Q := by
  simp only [vop] at hv
  split at hv
  · rename_i m f m' g hx hy
    cases hb : (Nat.beq m n && Nat.beq m' n) with
    | false => rw [hb] at hv; exact hv.elim
    | true =>
    rw [hb] at hv
    simp only [Bool.and_eq_true] at hb
    obtain rfl := Nat.eq_of_beq_eq_true hb.1
    obtain rfl := Nat.eq_of_beq_eq_true hb.2
    simp only [chkOp] at hc
    split at hc
    · rename_i op t x y yt ho
      simp only [Bool.and_eq_true, decide_eq_true_eq, Bool.not_eq_true'] at hc
      obtain ⟨⟨⟨⟨⟨rfl, h0⟩, h1⟩, h2⟩, h3⟩, h4⟩ := hc
      obtain ⟨e1, -⟩ := chkAr_sound h3 hf hx
      obtain ⟨e2, -⟩ := chkAr_sound h4 hf hy
      have hu : ∃ len e, P.underlying t = some (.array len e) := by
        split at h1
        · rename_i l e hu; exact ⟨l, e, hu⟩
        · cases h1
      have heq := eq_arr (w := w) 20 t _ h0 hu Op.maxDepth (by decide) f g
      refine here hn hh hv rfl rfl ?_
      cases neg
      · simp [execOp, ho, e1, e2, renS, ren, eqGuard, h2, binOp, Op.equal, heq]
      · simp [execOp, ho, e1, e2, renS, ren, eqGuard, h2, binOp, Op.equal, heq]
    · cases hc
  · exact hv.elim

/-! ### slices -/
theorem fill_one {a : Act} : ∀ {xs : List (Nat × Operand)} {ys : List Ar} {l : List At} {j : Nat} {cs : Array Value}, chkSeq ρ j xs ys = true → FRel ρ σ a.tmps fr H.length → atoms (ys.map (ev fr)) = some l → (∀ b ∈ l, b.cell1 = true) →
    cs.size = j + l.length → (Instr.fill (fun i => some (i * 1, 1)) cs (xs.map fun p => (p.1, a.eval p.2)) = some (cs.toList.take j ++ l.map (ren ρ σ)).toArray) ∧ ∀ b ∈ l, b.lt H.length = true
  | [], [], l, j, cs, _, _, h, _, hs => by
    simp [atoms] at h; subst h
    simp only [List.length_nil, Nat.add_zero] at hs
    refine ⟨?_, by simp⟩
    simp only [Instr.fill, List.map_nil, List.append_nil, Option.some.injEq]
    rw [List.take_of_length_le (by simp; omega)]
  | (i, x) :: xs, y :: ys, l, j, cs, hc, hf, h, h1, hs => by
    simp only [chkSeq, Bool.and_eq_true, beq_iff_eq] at hc
    obtain ⟨⟨rfl, c1⟩, c2⟩ := hc
    simp only [List.map_cons] at h
    unfold atoms at h
    split at h
    · rename_i heq; simp at heq
    · rename_i a0 r heq
      simp only [List.cons.injEq] at heq
      obtain ⟨q1, q2⟩ := heq
      subst q2
      split at h
      · rename_i l' hl'
        simp only [Option.some.injEq] at h; subst h
        obtain ⟨e1, l1⟩ := chkAr_sound c1 hf q1
        have hc1 := h1 a0 (by simp)
        obtain ⟨o1, o2⟩ := ren_one (ρ := ρ) (σ := σ) hc1
        simp only [List.length_cons] at hs
        have ih := fill_one (cs := cs.setIfInBounds i (ren ρ σ a0)) c2 hf hl' (fun b hb => h1 b (by simp [hb])) (by simp; omega)
        refine ⟨?_, ?_⟩
        · simp only [List.map_cons, Instr.fill, e1, renS, o2, Nat.mul_one]
          rw [if_neg (by simp; omega)]
          have hz : (#[ren ρ σ a0] : Array Value).zipIdx.foldl (fun cs (x : Value × Nat) => match x with | (c, j) => cs.setIfInBounds (i + j) c) cs = cs.setIfInBounds i (ren ρ σ a0) := by
            rw [fold_zip]; simp
          have e := ih.1
          simp only [Nat.mul_one] at e
          rw [hz, e]
          congr 1
          rw [Array.toList_setIfInBounds]
          have : (cs.toList.set i (ren ρ σ a0)).take (i + 1) = cs.toList.take i ++ [ren ρ σ a0] := by
            rw [List.take_add_one, List.getElem?_set_self (by simp; omega), List.take_set_of_le (Nat.le_refl _)]
            rfl
          rw [this]
          simp
        · intro b hb
          rcases List.mem_cons.1 hb with rfl | hb
          · exact l1
          · exact ih.2 b hb
      · cases h
    · cases h
  | [], _ :: _, _, _, _, hc, _, _, _, _ => by simp [chkSeq] at hc
  | _ :: _, [], _, _, _, hc, _, _, _, _ => by simp [chkSeq] at hc

theorem atoms_length : ∀ {ys : List Ar} {l : List At}, atoms (ys.map (ev fr)) = some l → l.length = ys.length
  | [], l, h => by simp [atoms] at h; subst h; rfl
  | y :: ys, l, h => by
    simp only [List.map_cons] at h
    unfold atoms at h
    split at h
    · rename_i heq; simp at heq
    · rename_i a0 r heq
      simp only [List.cons.injEq] at heq
      obtain ⟨q1, q2⟩ := heq
      subst q2
      split at h
      · rename_i l' hl'
        simp only [Option.some.injEq] at h; subst h
        simp [atoms_length hl']
      · cases h
    · cases h

theorem s_bsa {ys : List Ar} (hc : chkOp P ρ o.op (.bsa ys) = true) (hf : FRel ρ σ a.tmps fr H.length) (hh : HRel ρ σ w H) (hv : vop P ρ fr H (.bsa ys) K) (hn : Nx ρ σ H w o a K next) : o.wp P a w next Q := by
  simp only [vop] at hv
  split at hv
  · rename_i l hl
    cases h1 : l.all At.cell1 with
    | false => rw [h1] at hv; exact hv.elim
    | true =>
    rw [h1] at hv
    obtain ⟨_, rfl, hv⟩ := hv
    have hlen := atoms_length hl
    simp only [chkOp] at hc
    split at hc
    · rename_i t len parts ho
      simp only [Bool.and_eq_true, beq_iff_eq, decide_eq_true_eq] at hc
      obtain ⟨⟨⟨rfl, c0⟩, c1⟩, c2⟩ := hc
      split at c2
      · rename_i e hu
        simp only [Bool.and_eq_true, beq_iff_eq] at c2
        obtain ⟨c2, c3⟩ := c2
        split at c3
        · rename_i z hz
          obtain ⟨i0, hi, hz'⟩ := Option.bind_eq_some_iff.1 hz
          have hzv : (zeroValue e).run P w = .ok z w := by simp [zeroValue, typeInfo, hi, hz']
          have h1' : ∀ b ∈ l, b.cell1 = true := List.all_eq_true.1 h1
          have hzero : ∀ (zs : Array Value), (Instr.fill (fun i => some (i * 1, 1)) ((Array.range (ys.length * 1)).map (zs[· % zs.size]!)) ((parts.map fun p => (p.1, a.eval p.2)).toList) = some (l.map (ren ρ σ)).toArray) ∧ ∀ b ∈ l, b.lt H.length = true := by
            intro zs
            have := fill_one (a := a) (j := 0) (cs := (Array.range (ys.length * 1)).map (zs[· % zs.size]!)) c1 hf hl h1' (by simp [hlen])
            refine ⟨?_, this.2⟩
            rw [Array.toList_map, this.1]
            simp
          refine new_at (c := .rw l) (T := e) hn hh ?_ (v := .one (.sl H.length 0 ys.length ys.length)) (by simp [Sv.lt, At.lt]) hv (x := .slice (some ⟨w.heap.size, 0, none⟩) ys.length ys.length) (by simp [renS, ren, setAt_same]) ?_
          · simp only [Bk.lt, List.all_eq_true, Bool.and_eq_true]
            exact fun b hb => ⟨(hzero #[]).2 b hb, h1' b hb⟩
          · simp only [execOp, ho, Instr.buildSlice, Sem.run_bind, run_underlying' hu, Result.andThen_ok, run_sizeOf' c2]
            rw [if_neg (by omega)]
            by_cases h0 : ys.length * 1 = 0
            · simp only [h0, if_true, Sem.run_bind, Sem.run_pure, Result.andThen_ok]
              have := (hzero #[]).1
              rw [h0] at this
              rw [this]
              simp [newRow, cellsB]
            · simp only [h0, if_false, Sem.run_bind, hzv, Sem.run_pure, Result.andThen_ok]
              rw [(hzero z.cells).1]
              simp [newRow, cellsB]
        · cases c3
      · cases c2
    · cases hc
  · exact hv.elim

theorem fill_b {a : Act} {esz N : Nat} {K : By → Prop} : ∀ {xs : List (Nat × Operand)} {ys : List Ar} {j : Nat} {f : By}, chkSeq ρ j xs ys = true → FRel ρ σ a.tmps fr H.length → layb fr K esz ys j f → (j + ys.length) * esz ≤ N →
    ∃ f', Instr.fill (fun i => some (i * esz, esz)) (cellsOf [] N f) (xs.map fun p => (p.1, a.eval p.2)) = some (cellsOf [] N f') ∧ K f'
  | [], [], j, f, _, _, h, _ => ⟨f, rfl, h⟩
  | (i, x) :: xs, y :: ys, j, f, hc, hf, h, hle => by
    simp only [chkSeq, Bool.and_eq_true, beq_iff_eq] at hc
    obtain ⟨⟨rfl, c1⟩, c2⟩ := hc
    simp only [layb] at h
    split at h
    · rename_i m g he
      cases hb : Nat.beq m esz with
      | false => rw [hb] at h; exact h.elim
      | true =>
      rw [hb] at h
      obtain rfl := Nat.eq_of_beq_eq_true hb
      obtain ⟨e1, -⟩ := chkAr_sound c1 hf he
      simp only [List.length_cons] at hle
      obtain ⟨f', q1, q2⟩ := fill_b c2 hf h (by rw [show i + 1 + ys.length = i + (ys.length + 1) by omega]; exact hle)
      refine ⟨f', ?_, q2⟩
      have hm : i * m + m ≤ N := by
        have : (i + 1) * m ≤ (i + (ys.length + 1)) * m := Nat.mul_le_mul_right m (by omega)
        rw [Nat.add_mul, Nat.one_mul] at this
        omega
      simp only [List.map_cons, Instr.fill, e1, renS, ren, Value.cells, cellsOf_size]
      rw [if_neg (by simp; omega)]
      have := part_cells (hd := []) (hd' := []) (n := N) (f := f) (f' := spl f (i * m) m g) (off := i * m) (v := .agg (cellsOf [] m g)) (by simp [Value.cells, cellsOf_size]; exact hm) (by
        intro u h1 h2
        simp only [Value.cells, cellsOf_size] at h2 ⊢
        rw [cellsOf_get _ _ _ _ (by omega), cel_by (by simp), cel_by (by simp)]
        simp [spl, h1, h2]) (by
        intro u hu
        simp only [Value.cells, cellsOf_size] at hu
        unfold cel spl
        rw [if_neg (by omega)])
      simp only [Value.cells] at this
      rw [this]
      exact q1
    · exact h.elim
  | [], _ :: _, _, _, hc, _, _, _ => by simp [chkSeq] at hc
  | _ :: _, [], _, _, hc, _, _, _ => by simp [chkSeq] at hc

theorem s_bsb {esz : Nat} {ys : List Ar} (hc : chkOp P ρ o.op (.bsb esz ys) = true) (hf : FRel ρ σ a.tmps fr H.length) (hh : HRel ρ σ w H) (hv : vop P ρ fr H (.bsb esz ys) K) (hn : Nx ρ σ H w o a K next) : o.wp P a w next Q := by
 simp only [vop] at hv
 simp only [chkOp] at hc
 split at hc
 ·rename_i t len parts ho
  simp only [Bool.and_eq_true, beq_iff_eq, decide_eq_true_eq] at hc
  obtain ⟨⟨⟨⟨rfl, c0⟩, c00⟩, c1⟩, c2⟩ := hc
  have hne : esz ≠ 0 := by simpa using c00
  split at c2
  ·rename_i e hu
   simp only [Bool.and_eq_true, beq_iff_eq] at c2
   obtain ⟨c2, c3⟩ := c2
   obtain ⟨z, hz1, hz2, -⟩ := zeroOk_sound (ρ := ρ) (σ := σ) (H := H) (w := w) c3
   obtain ⟨f', q1, _, rfl, q2⟩ := fill_b (a := a) (j := 0) (N := ys.length * esz) c1 hf hv (by simp)
   refine new_at (c := .by [] (ys.length * esz) f') (T := e) hn hh rfl (v := .one (.sl H.length 0 ys.length ys.length)) (by simp [Sv.lt, At.lt]) q2 (x := .slice (some ⟨w.heap.size, 0, none⟩) ys.length ys.length) (by simp [renS, ren, setAt_same]) ?_
   have hz : z.cells = cellsOf [] esz (fun _ => 0) := hz2
   have hzc : (Array.range (ys.length * esz)).map (fun x => (cellsOf [] esz (fun _ => 0))[x % (cellsOf [] esz (fun _ => 0)).size]!) = cellsOf [] (ys.length * esz) (fun _ => 0) := by
    apply Array.ext_getElem?
    intro x
    by_cases hx : x < ys.length * esz
    ·rw [cellsOf_get _ _ _ _ hx]
     have hlt : x % esz < esz := Nat.mod_lt _ (by omega)
     have hg : (cellsOf [] esz (fun _ => 0))[x % esz]! = cel [] (fun _ => 0) (x % esz) := by
      rw [getElem!_def, cellsOf_get _ _ _ _ hlt]
     simp only [cellsOf_size]
     simp [hx, hg, cel]
    ·rw [Array.getElem?_eq_none (by simp; omega), Array.getElem?_eq_none (by rw [cellsOf_size]; omega)]
   simp only [execOp, ho, Instr.buildSlice, Sem.run_bind, run_underlying' hu, Result.andThen_ok, run_sizeOf' c2]
   rw [if_neg (by omega)]
   by_cases h0 : ys.length * esz = 0
   ·simp only [h0, if_true, Sem.run_bind, Sem.run_pure, Result.andThen_ok]
    have : (Array.range 0).map (fun x => (#[] : Array Value)[x % (#[] : Array Value).size]!) = cellsOf [] 0 (fun _ => 0) := by apply Array.ext'; simp [cellsOf]
    rw [h0] at q1
    rw [this, Array.toList_map, q1]
    simp [newRow, cellsB]
   ·simp only [h0, if_false, Sem.run_bind, hz1, Sem.run_pure, Result.andThen_ok, hz]
    rw [hzc, Array.toList_map, q1]
    simp [newRow, cellsB]
  ·cases c2
 ·cases hc

theorem gcel_app {esz : Nat} {L M : List (List Int × By)} {x : Nat} (h : x < L.length * esz) : gcel esz (L ++ M) x = gcel esz L x := by
 have : x / esz < L.length := by
  rcases Nat.eq_zero_or_pos esz with rfl | h0
  ·simp at h
  ·rwa [Nat.div_lt_iff_lt_mul h0]
 simp only [gcel, List.getElem?_append_left this]
theorem gcel_last {esz : Nat} {L : List (List Int × By)} {q : List Int × By} {u : Nat} (h : u < esz) : gcel esz (L ++ [q]) (L.length * esz + u) = cel q.1 q.2 u := by
 have e1 : (L.length * esz + u) / esz = L.length := by
  rw [Nat.mul_comm, Nat.mul_add_div (by omega), Nat.div_eq_of_lt h, Nat.add_zero]
 have e2 : (L.length * esz + u) % esz = u := by
  rw [Nat.mul_comm, Nat.mul_add_mod, Nat.mod_eq_of_lt h]
 rw [gcel, e1, e2]
 simp

theorem fill_h {a : Act} {esz : Nat} : ∀ {xs : List (Nat × Operand)} {ys : List Ar} {l L : List (List Int × By)} {cs : Array Value}, chkSeq ρ L.length xs ys = true → FRel ρ σ a.tmps fr H.length → hdsL esz (ys.map (ev fr)) = some l →
    cs.size = (L.length + ys.length) * esz → (∀ x, x < L.length * esz → cs[x]? = some (gcel esz L x)) →
    Instr.fill (fun i => some (i * esz, esz)) cs (xs.map fun p => (p.1, a.eval p.2)) = some (gcells esz (L ++ l)) ∧ l.length = ys.length
  | [], [], l, L, cs, _, _, h, hs, hL => by
    simp only [List.map_nil, hdsL, Option.some.injEq] at h; subst h
    simp only [List.length_nil, Nat.add_zero] at hs
    refine ⟨?_, rfl⟩
    simp only [Instr.fill, List.map_nil, List.append_nil, Option.some.injEq]
    apply Array.ext_getElem?
    intro x
    by_cases hx : x < L.length * esz
    · rw [hL x hx, gcells_get _ _ _ hx]
    · rw [Array.getElem?_eq_none (by omega), Array.getElem?_eq_none (by rw [gcells_size]; omega)]
  | (i, x) :: xs, y :: ys, l, L, cs, hc, hf, h, hs, hL => by
    simp only [chkSeq, Bool.and_eq_true, beq_iff_eq] at hc
    obtain ⟨⟨rfl, c1⟩, c2⟩ := hc
    simp only [List.map_cons] at h
    unfold hdsL at h
    split at h
    · rename_i heq; simp at heq
    · rename_i hd m g r heq
      simp only [List.cons.injEq] at heq
      obtain ⟨q1, q2⟩ := heq
      subst q2
      split at h
      · rename_i l' hb hl'
        obtain rfl := Nat.eq_of_beq_eq_true hb
        simp only [Option.some.injEq] at h; subst h
        obtain ⟨e1, -⟩ := chkAr_sound c1 hf q1
        simp only [List.length_cons] at hs
        have hsz : L.length * m + m ≤ cs.size := by
          rw [hs]
          have := Nat.mul_le_mul_right m (show L.length + 1 ≤ L.length + (ys.length + 1) by omega)
          rw [Nat.add_mul, Nat.one_mul] at this
          exact this
        have ih := fill_h (xs := xs) (ys := ys) (l := l') (L := L ++ [(hd, g)]) (cs := (((cellsOf hd m g).toList.zipIdx 0).foldl (fun cs (p : Value × Nat) => cs.setIfInBounds (L.length * m + p.2) p.1) cs)) (by simpa using c2) hf hl' (by
          rw [fold_set, hs]; simp only [List.length_append, List.length_singleton]; congr 1; omega) (by
          intro x hx
          simp only [List.length_append, List.length_singleton, Nat.add_mul, Nat.one_mul] at hx
          rw [fold_get _ _ 0 _ _ (by simpa [cellsOf_size] using hsz)]
          simp only [Nat.add_zero, Array.length_toList, cellsOf_size]
          by_cases h1 : L.length * m ≤ x
          · rw [if_pos ⟨h1, hx⟩, Array.getElem?_toList, cellsOf_get _ _ _ _ (by omega)]
            have e : x = L.length * m + (x - L.length * m) := by omega
            rw [e, gcel_last (by omega)]
            simp
          · rw [if_neg (by omega), hL x (by omega), gcel_app (by omega)])
        refine ⟨?_, by simp [ih.2]⟩
        simp only [List.map_cons, Instr.fill, e1, renS, ren, Value.cells, cellsOf_size]
        rw [if_neg (by simp; omega)]
        have := ih.1
        rw [List.append_assoc, List.singleton_append] at this
        rw [fold_zip]
        exact this
      · cases h
    · cases h
  | [], _ :: _, _, _, _, hc, _, _, _, _ => by simp [chkSeq] at hc
  | _ :: _, [], _, _, _, hc, _, _, _, _ => by simp [chkSeq] at hc

theorem s_bsh {h esz : Nat} {ys : List Ar} (hc : chkOp P ρ o.op (.bsh h esz ys) = true) (hf : FRel ρ σ a.tmps fr H.length) (hh : HRel ρ σ w H) (hv : vop P ρ fr H (.bsh h esz ys) K) (hn : Nx ρ σ H w o a K next) : o.wp P a w next Q := by
 simp only [vop] at hv
 simp only [chkOp] at hc
 split at hv
 ·rename_i l hl
  obtain ⟨_, rfl, hv⟩ := hv
  split at hc
  ·rename_i t len parts ho
   simp only [Bool.and_eq_true, beq_iff_eq, decide_eq_true_eq] at hc
   obtain ⟨⟨⟨⟨rfl, c0⟩, c00⟩, c1⟩, c2⟩ := hc
   have hne : esz ≠ 0 := by simpa using c00
   split at c2
   ·rename_i e hu
    simp only [Bool.and_eq_true, beq_iff_eq] at c2
    obtain ⟨c2, c3⟩ := c2
    obtain ⟨z, hz1, hz2, -⟩ := zeroOk_sound (ρ := ρ) (σ := σ) (H := H) (w := w) c3
    have hfill : ∀ cs : Array Value, cs.size = ys.length * esz → Instr.fill (fun i => some (i * esz, esz)) cs (parts.toList.map fun p => (p.1, a.eval p.2)) = some (gcells esz l) := fun cs hs =>
     (fill_h (a := a) (L := []) (cs := cs) c1 hf hl (by simpa using hs) (by simp)).1
    refine new_at (c := .gs esz l) (T := e) hn hh rfl (v := .one (.sl H.length 0 ys.length ys.length)) (by simp [Sv.lt, At.lt]) hv (x := .slice (some ⟨w.heap.size, 0, none⟩) ys.length ys.length) (by simp [renS, ren, setAt_same]) ?_
    simp only [execOp, ho, Instr.buildSlice, Sem.run_bind, run_underlying' hu, Result.andThen_ok, run_sizeOf' c2]
    rw [if_neg (by omega)]
    by_cases h0 : ys.length * esz = 0
    ·simp only [h0, if_true, Sem.run_bind, Sem.run_pure, Result.andThen_ok]
     rw [Array.toList_map, hfill _ (by simp [h0])]
     simp [newRow, cellsB]
    ·simp only [h0, if_false, Sem.run_bind, hz1, Sem.run_pure, Result.andThen_ok]
     rw [Array.toList_map, hfill _ (by simp)]
     simp [newRow, cellsB]
   ·cases c2
  ·cases hc
 ·exact hv.elim

theorem s_slc {y : Ar} {lo' hi' : Option Ar} {esz : Nat} (hc : chkOp P ρ o.op (.slc y lo' hi' esz) = true) (hf : FRel ρ σ a.tmps fr H.length) (hh : HRel ρ σ w H) (hv : vop P ρ fr H (.slc y lo' hi' esz) K) (hn : Nx ρ σ H w o a K next) : o.wp P a w next Q := by
  simp only [vop] at hv
  split at hv
  · rename_i k off len cap he
    split at hv
    · rename_i l h hl hr
      obtain ⟨x, y, rfl, rfl, ⟨b1', b2', b3'⟩, hv⟩ := hv
      have b0 : (0 : Int) ≤ (x : Int) := by omega
      have b1 : (x : Int) ≤ (y : Int) := by omega
      have b2 : (y : Int) ≤ (cap : Nat) := by omega
      have b3 : (x : Int) < (cap : Nat) := by omega
      simp only [chkOp] at hc
      split at hc
      · rename_i t xx lo hi mx ho
        simp only [Bool.and_eq_true] at hc
        obtain ⟨⟨⟨⟨c1, c2⟩, c3⟩, c4⟩, c5⟩ := hc
        have hmx : mx = none := by simpa using c2
        subst hmx
        obtain ⟨e1, l1⟩ := chkAr_sound c1 hf he
        split at c5
        · rename_i e hu
          simp only [beq_iff_eq] at c5
          refine here hn hh hv (v := .one (.sl k (off + x * esz) (y - x) (cap - x))) l1 rfl ?_
          have hh1 : ((match hi with | some v => Instr.sliceBound (a.eval v) cap .sliceAcap | none => pure len : Sem Nat)).run P w = .ok y w := by
            cases hi with
            | none =>
              cases hi' with
              | none =>
                          simp only [evo, Option.some.injEq, Sv.one.injEq, At.i.injEq, true_and] at hr
                          have hr : len = y := by omega
                          subst hr; simp
              | some v => cases c4
            | some u =>
              cases hi' with
              | none => cases c4
              | some v =>
                obtain ⟨e2, -⟩ := chkAr_sound c4 hf hr
                simp [Instr.sliceBound, e2, renS, ren, asIntOf, show (0 : Int) ≤ (y : Int) by omega, b2]
          have hl1 : ((match lo with | some v => Instr.sliceBound (a.eval v) y .sliceB | none => pure 0 : Sem Nat)).run P w = .ok x w := by
            cases lo with
            | none =>
              cases lo' with
              | none =>
                          simp only [evo, Option.some.injEq, Sv.one.injEq, At.i.injEq, true_and] at hl
                          have hl : 0 = x := by omega
                          subst hl; simp
              | some v => cases c3
            | some u =>
              cases lo' with
              | none => cases c3
              | some v =>
                obtain ⟨e2, -⟩ := chkAr_sound c3 hf hl
                simp [Instr.sliceBound, e2, renS, ren, asIntOf, b0, show (x : Int) ≤ max (y : Int) 0 by omega, b1']
          have hb : (Instr.sliceBounds true len cap (lo.map a.eval) (hi.map a.eval) none).run P w = .ok (x, y, cap) w := by
            unfold Instr.sliceBounds
            cases hi with
            | none =>
              simp only [Option.map_none, Sem.run_bind, Sem.run_pure, Result.andThen_ok] at hh1 ⊢
              injection hh1 with hh1
              cases lo with
              | none =>
                simp only [Option.map_none, Sem.run_pure, Result.andThen_ok] at hl1 ⊢
                injection hl1 with hl1
                rw [← hl1, hh1]
                rfl
              | some u =>
                simp only [Option.map_some] at hl1 ⊢
                rw [hh1]
                simp [hl1]
            | some v =>
              simp only [Option.map_some, Sem.run_bind, Sem.run_pure, Result.andThen_ok, if_true] at hh1 ⊢
              rw [hh1]
              simp only [Result.andThen_ok]
              cases lo with
              | none =>
                simp only [Option.map_none, Sem.run_pure, Result.andThen_ok] at hl1 ⊢
                injection hl1 with hl1
                rw [← hl1]
                rfl
              | some u =>
                simp only [Option.map_some] at hl1 ⊢
                simp [hl1]
          have hne : ¬ cap = x := by omega
          simp [execOp, ho, e1, renS, ren, Instr.sliceAt, Instr.slice, Sem.run_bind, run_underlying' hu, hb, run_sizeOf' c5, hne, add_mk]
        · cases c5
      · cases hc
    · exact hv.elim
  · exact hv.elim
end
end Hf
/- The engine, part 8: a call of the abstract state is a call of the model. -/
namespace Hf
open Go
section
variable {P : Program} {ρ : Nat → FuncId} {σ : Nat → Nat} {H : List Blk} {w : World} {o : Oper} {a : Act} {fr : List (Nat × Sv)} {K : Sv → List Blk → Prop}
variable {next : Act → World → Prop} {Q : Exit → Act → World → Prop}
theorem ren_mva (T : Nat → Nat) (x : At) : ren ρ σ (mva T x) = ren ρ (fun k => σ (T k)) x := by
 cases x <;> simp [mva, ren]
 constructor <;> (intro p q _; rfl)
theorem renS_mvs (T : Nat → Nat) (x : Sv) : renS ρ σ (mvs T x) = renS ρ (fun k => σ (T k)) x := by
  cases x with
  | one a => exact ren_mva T a
  | tup l => simp only [mvs, renS, List.map_map]; congr 2; exact List.map_congr_left fun a _ => ren_mva T a
  | rc l => simp only [mvs, renS, List.map_map]; congr 2; exact List.map_congr_left fun a _ => ren_mva T a
theorem cellsB_mvb (T : Nat → Nat) (x : Bk) : cellsB ρ σ (mvb T x) = cellsB ρ (fun k => σ (T k)) x := by
  cases x with
  | «by» hd n f => rfl
  | gs esz l => rfl
  | fo cs fz => rfl
  | vr a => simp only [mvb, cellsB, ren_mva]
  | rw l => simp only [mvb, cellsB, List.map_map]; congr 1; exact List.map_congr_left fun a _ => ren_mva T a

theorem frz_mvb (T : Nat → Nat) (x : Bk) : frz (mvb T x) = frz x := by cases x <;> rfl

theorem mva_lt {T : Nat → Nat} {n m : Nat} (hT : ∀ k, k < n → T k < m) {x : At} (h : x.lt n = true) : (mva T x).lt m = true := by
  cases x with
  | pt k off => simp [At.lt, mva] at *; exact hT k h
  | sl k off len cap => simp [At.lt, mva] at *; exact hT k h
  | fn f first caps =>
    simp only [At.lt, mva, Bool.and_eq_true, List.all_eq_true, decide_eq_true_eq, List.mem_map] at *
    refine ⟨?_, ?_⟩
    · rintro p ⟨q, hq, rfl⟩; exact hT _ (h.1 q hq)
    · rintro p ⟨q, hq, rfl⟩; exact hT _ (h.2 q hq)
  | _ => rfl
theorem mva_cell1 {T : Nat → Nat} {x : At} (h : x.cell1 = true) : (mva T x).cell1 = true := by
 cases x <;> first | rfl | cases h
theorem mvs_lt {T : Nat → Nat} {n m : Nat} (hT : ∀ k, k < n → T k < m) {x : Sv} (h : x.lt n = true) : (mvs T x).lt m = true := by
  cases x with
  | one a => exact mva_lt hT h
  | tup l =>
    simp only [Sv.lt, mvs, List.all_eq_true, List.mem_map] at *
    rintro p ⟨q, hq, rfl⟩
    exact mva_lt hT (h q hq)
  | rc l =>
    simp only [Sv.lt, mvs, List.all_eq_true, List.mem_map] at *
    rintro p ⟨q, hq, rfl⟩
    exact mva_lt hT (h q hq)
theorem mvb_lt {T : Nat → Nat} {n m : Nat} (hT : ∀ k, k < n → T k < m) {x : Bk} (h : x.lt n = true) : (mvb T x).lt m = true := by
  cases x with
  | «by» hd n f => rfl
  | gs esz l => rfl
  | fo cs fz => rfl
  | vr a => simp only [Bk.lt, mvb, Bool.and_eq_true] at *; exact ⟨mva_lt hT h.1, mva_cell1 h.2⟩
  | rw l =>
    simp only [Bk.lt, mvb, List.all_eq_true, List.mem_map, Bool.and_eq_true] at *
    rintro p ⟨q, hq, rfl⟩
    exact ⟨mva_lt hT (h q hq).1, mva_cell1 (h q hq).2⟩
theorem lt_mva {T : Nat → Nat} {n m : Nat} (hT : ∀ k, n ≤ k → m ≤ T k) {x : At} (h : (mva T x).lt m = true) : x.lt n = true := by
  have key : ∀ k, T k < m → k < n := fun k hk => by
    rcases Nat.lt_or_ge k n with h | h
    · exact h
    · have := hT k h; omega
  cases x with
  | pt k off => simp [At.lt, mva] at *; exact key k h
  | sl k off len cap => simp [At.lt, mva] at *; exact key k h
  | fn f first caps =>
    simp only [At.lt, mva, Bool.and_eq_true, List.all_eq_true, decide_eq_true_eq, List.mem_map] at *
    refine ⟨fun q hq => key _ (h.1 _ ⟨q, hq, rfl⟩), fun q hq => key _ (h.2 _ ⟨q, hq, rfl⟩)⟩
  | _ => rfl
theorem cell1_mva {T : Nat → Nat} {x : At} (h : (mva T x).cell1 = true) : x.cell1 = true := by
 cases x <;> first | rfl | cases h
theorem lt_mvb {T : Nat → Nat} {n m : Nat} (hT : ∀ k, n ≤ k → m ≤ T k) {x : Bk} (h : (mvb T x).lt m = true) : x.lt n = true := by
  cases x with
  | «by» hd n f => rfl
  | gs esz l => rfl
  | fo cs fz => rfl
  | vr a => simp only [Bk.lt, mvb, Bool.and_eq_true] at *; exact ⟨lt_mva hT h.1, cell1_mva h.2⟩
  | rw l =>
    simp only [Bk.lt, mvb, List.all_eq_true, List.mem_map, Bool.and_eq_true] at *
    intro q hq
    have := h _ ⟨q, hq, rfl⟩
    exact ⟨lt_mva hT this.1, cell1_mva this.2⟩

theorem emb_length {T : Nat → Nat} : ∀ {τ : List Nat} {Hc : List Blk}, emb T H τ Hc → τ.length = Hc.length
  | [], [], _ => rfl
  | _ :: _, _ :: _, h => by simp [emb_length h.2]
  | [], _ :: _, h => h.elim
  | _ :: _, [], h => h.elim
theorem emb_get {T : Nat → Nat} : ∀ {τ : List Nat} {Hc : List Blk} {j : Nat} {B : Blk}, emb T H τ Hc → Hc[j]? = some B → ∃ t r, τ[j]? = some t ∧ H[t]? = some ⟨r, mvb T B.c⟩ ∧ (B.ro = false → r = false)
  | t :: ts, B0 :: Bs, 0, B, h, e => by
    simp at e; subst e
    obtain ⟨⟨r, h1, h2⟩, -⟩ := h
    exact ⟨t, r, rfl, h1, h2⟩
  | t :: ts, B0 :: Bs, j + 1, B, h, e => by
    rw [List.getElem?_cons_succ] at e ⊢
    exact emb_get h.2 e
  | [], [], _, _, _, e => by simp at e
  | [], _ :: _, _, _, h, _ => h.elim
  | _ :: _, [], _, _, h, _ => h.elim

theorem apart_get : ∀ {τ : List Nat} {Hc : List Blk} {i j : Nat} {B : Blk} {ti tj : Nat}, τ.length = Hc.length → apart τ Hc = true → i ≠ j → Hc[i]? = some B → B.ro = false → τ[i]? = some ti → τ[j]? = some tj → ti ≠ tj := by
  intro τ
  induction τ with
  | nil => intro Hc i j B ti tj _ _ _ _ _ h _; simp at h
  | cons t ts ih =>
    intro Hc i j B ti tj hl ha hij hB hro hi hj
    cases Hc with
    | nil => simp at hl
    | cons B0 Bs =>
      simp only [List.length_cons, Nat.add_right_cancel_iff] at hl
      simp only [apart, Bool.and_eq_true, List.all_eq_true] at ha
      obtain ⟨a1, a2⟩ := ha
      cases i with
      | zero =>
        simp at hi hB; subst hi; subst hB
        cases j with
        | zero => exact (hij rfl).elim
        | succ j =>
          rw [List.getElem?_cons_succ] at hj
          have hjl : j < ts.length := (List.getElem?_eq_some_iff.1 hj).1
          have hjB : Bs[j]? = some Bs[j] := by simp [← hl, hjl]
          have hm : (tj, Bs[j]) ∈ ts.zip Bs := by
            apply List.mem_of_getElem? (i := j)
            rw [List.getElem?_zip_eq_some]
            exact ⟨hj, hjB⟩
          have := a1 _ hm
          simp [hro] at this
          exact fun e => this e.symm
      | succ i =>
        rw [List.getElem?_cons_succ] at hi hB
        cases j with
        | zero =>
          simp at hj; subst hj
          have hm : (ti, B) ∈ ts.zip Bs := by
            apply List.mem_of_getElem? (i := i)
            rw [List.getElem?_zip_eq_some]
            exact ⟨hi, hB⟩
          have := a1 _ hm
          simp [hro] at this
          exact this
        | succ j =>
          rw [List.getElem?_cons_succ] at hj
          exact ih hl a2 (by omega) hB hro hi hj

theorem back_length {T : Nat → Nat} : ∀ (τ : List Nat) (Hc Hc' H : List Blk), (back T τ Hc Hc' H).length = H.length
  | t :: ts, B :: Bs, B' :: Bs', H => by
    rw [back, back_length]
    split <;> simp
  | [], _, _, _ => by simp [back]
  | _ :: _, [], _, _ => by simp [back]
  | _ :: _, _ :: _, [], _ => by simp [back]

theorem back_get {T : Nat → Nat} {k : Nat} : ∀ (τ : List Nat) (Hc Hc' H : List Blk), τ.length = Hc.length → Hc.length ≤ Hc'.length → k < H.length →
    ((back T τ Hc Hc' H)[k]? = H[k]? ∧ ∀ (j : Nat) (B : Blk), τ[j]? = some k → Hc[j]? = some B → B.ro = true) ∨
    ∃ (j : Nat) (B B' : Blk), τ[j]? = some k ∧ Hc[j]? = some B ∧ Hc'[j]? = some B' ∧ B.ro = false ∧ (back T τ Hc Hc' H)[k]? = some ⟨false, mvb T B'.c⟩
  | t :: ts, B :: Bs, B' :: Bs', H, hl, hl', hk => by
    simp only [List.length_cons, Nat.add_right_cancel_iff, Nat.add_le_add_iff_right] at hl hl'
    rw [back]
    rcases back_get (k := k) ts Bs Bs' (if B.ro then H else H.set t ⟨false, mvb T B'.c⟩) hl hl' (by split <;> simpa using hk) with ⟨h1, h2⟩ | ⟨j, B1, B2, e1, e2, e3, e4, e5⟩
    · by_cases hro : B.ro = true
      · rw [if_pos hro] at h1
        refine .inl ⟨by rw [if_pos hro]; exact h1, ?_⟩
        intro j B1 hj hB
        cases j with
        | zero => simp at hB; subst hB; exact hro
        | succ j => exact h2 j B1 (by simpa using hj) (by simpa using hB)
      · rw [if_neg hro] at h1 ⊢
        by_cases ht : t = k
        · subst ht
          refine .inr ⟨0, B, B', rfl, rfl, rfl, by simpa using hro, ?_⟩
          rw [h1, List.getElem?_set_self hk]
        · refine .inl ⟨?_, ?_⟩
          · rw [h1, List.getElem?_set_ne ht]
          · intro j B1 hj hB
            cases j with
            | zero => simp at hj; exact (ht hj).elim
            | succ j => exact h2 j B1 (by simpa using hj) (by simpa using hB)
    · exact .inr ⟨j + 1, B1, B2, by simpa using e1, by simpa using e2, by simpa using e3, e4, e5⟩
  | [], [], _, H, _, _, _ => .inl ⟨by simp [back], fun j B h _ => by simp at h⟩
  | [], _ :: _, _, _, hl, _, _ => by simp at hl
  | _ :: _, [], _, _, hl, _, _ => by simp at hl
  | _ :: _, _ :: _, [], _, _, hl, _ => by simp at hl

theorem tau_lt {τ : List Nat} {m k : Nat} {t : Nat} (h : τ[k]? = some t) : tau τ m k = t := by simp [tau, h]
theorem tau_ge {τ : List Nat} {m k : Nat} (h : τ.length ≤ k) : tau τ m k = m + (k - τ.length) := by simp [tau, List.getElem?_eq_none h]

theorem call_soundR {f : Nat} {l : List At} (hh : HRel ρ σ w H) (hv : vcallR P ρ H f l K) :
  Calls P (ρ f) (l.map (ren ρ σ)).toArray w fun e w' => ∃ v H' σ', e = .returned (renS ρ σ' v) ∧ K v H' ∧ Sp ρ σ H w σ' H' w' ∧ v.lt H'.length = true := by
 obtain ⟨m, τ, as, Hc, Q, rfl, hok, rfl, hemb, hap, hK⟩ := hv
 generalize hT : tau τ H.length = T at *
 have hlen := emb_length hemb
 have hTlt : ∀ k, k < τ.length → ∃ t, τ[k]? = some t ∧ T k = t ∧ t < H.length := by
  intro k hk
  have hB : Hc[k]? = some Hc[k] := by simp [← hlen, hk]
  obtain ⟨t, r, e1, e2, -⟩ := emb_get hemb hB
  exact ⟨t, e1, by rw [← hT]; exact tau_lt e1, (List.getElem?_eq_some_iff.1 e2).1⟩
 have hTge : ∀ k, τ.length ≤ k → T k = H.length + (k - τ.length) := fun k hk => by rw [← hT]; exact tau_ge hk
 have hhc : HRel ρ (fun k => σ (T k)) w Hc := by
  refine ⟨?_, ?_, ?_⟩
  ·intro k B hB
   obtain ⟨t, r, e1, e2, -⟩ := emb_get hemb hB
   obtain ⟨T', e3⟩ := hh.at_ _ _ e2
   have : T k = t := by rw [← hT]; exact tau_lt e1
   exact ⟨T', by rw [this, e3, cellsB_mvb, frz_mvb]⟩
  ·intro j k B hjk hk hB hro
   obtain ⟨tj, r, e1, e2, e3⟩ := emb_get hemb hB
   obtain ⟨tk, f1, f2, f3⟩ := hTlt k (by omega)
   have : T j = tj := by rw [← hT]; exact tau_lt e1
   have hne := apart_get hlen hap hjk hB hro e1 f1
   show σ (T j) ≠ σ (T k)
   rw [this, f2]
   exact hh.sep tj tk _ hne f3 e2 (e3 hro)
  ·intro k B hB
   obtain ⟨t, r, e1, e2, -⟩ := emb_get hemb hB
   have := hh.clo _ _ e2
   exact lt_mvb (fun x hx => by rw [hTge x (by omega)]; omega) this
 have hargs : ((as.map (mva T)).map (ren ρ σ)).toArray = (as.map (ren ρ (fun k => σ (T k)))).toArray := by
  rw [List.map_map]
  congr 1
  exact List.map_congr_left fun x _ => ren_mva T x
 rw [hargs]
 refine (hok _ w hhc).mono ?_
 rintro e w' ⟨v, Hc', σc, hQ, rfl, sp, hvl⟩
 replace hK := hK v Hc' hQ
 have hlc : Hc.length ≤ Hc'.length := sp.len
 let σ' : Nat → Nat := fun k => if k < H.length then σ k else σc (k - H.length + τ.length)
 have hσT : ∀ k, k < Hc'.length → σ' (T k) = σc k := by
  intro k hk
  by_cases hkl : k < τ.length
  ·obtain ⟨t, f1, f2, f3⟩ := hTlt k hkl
   have := sp.same k (by omega)
   simp only [f2] at this
   rw [f2]
   simp only [σ', f3, if_true]
   exact this.symm
  ·rw [hTge k (by omega)]
   simp only [σ']
   rw [if_neg (by omega)]
   congr 1; omega
 have hTm : ∀ k, k < Hc'.length → T k < H.length + (Hc'.length - Hc.length) := by
  intro k hk
  by_cases hkl : k < τ.length
  ·obtain ⟨t, f1, f2, f3⟩ := hTlt k hkl
   rw [f2]; omega
  ·rw [hTge k (by omega)]; omega
 have hcb : ∀ {c : Bk}, c.lt Hc'.length = true → cellsB ρ σ' (mvb T c) = cellsB ρ σc c := by
  intro c hc
  rw [cellsB_mvb]
  exact cellsB_congr (m := Hc'.length) (fun k hk => hσT k hk) hc
 have hbl := back_length (T := T) τ Hc Hc' H
 have hH'len : (back T τ Hc Hc' H ++ (Hc'.drop Hc.length).map (fun B => (⟨B.ro, mvb T B.c⟩ : Blk))).length = H.length + (Hc'.length - Hc.length) := by
  simp [hbl]
 have hσold : ∀ k, k < H.length → σ' k = σ k := fun k hk => by simp only [σ', hk, if_true]
 have hold : ∀ (k : Nat) (B : Blk), k < H.length → (back T τ Hc Hc' H ++ (Hc'.drop Hc.length).map (fun B => (⟨B.ro, mvb T B.c⟩ : Blk)))[k]? = some B →
   (H[k]? = some B ∧ ∀ (j : Nat) (B : Blk), τ[j]? = some k → Hc[j]? = some B → B.ro = true) ∨ ∃ (j : Nat) (B1 B' : Blk), τ[j]? = some k ∧ Hc[j]? = some B1 ∧ Hc'[j]? = some B' ∧ B1.ro = false ∧ B = ⟨false, mvb T B'.c⟩ := by
  intro k B hk hB
  rw [List.getElem?_append_left (by rw [hbl]; exact hk)] at hB
  rcases back_get (T := T) τ Hc Hc' H hlen hlc hk with ⟨h1, h2⟩ | ⟨j, B1, B2, e1, e2, e3, e4, e5⟩
  ·exact .inl ⟨by rw [← h1]; exact hB, h2⟩
  ·rw [e5] at hB
   exact .inr ⟨j, B1, B2, e1, e2, e3, e4, by cases hB; rfl⟩
 have hnew : ∀ (k : Nat) (B : Blk), H.length ≤ k → (back T τ Hc Hc' H ++ (Hc'.drop Hc.length).map (fun B => (⟨B.ro, mvb T B.c⟩ : Blk)))[k]? = some B →
   ∃ B', Hc'[k - H.length + τ.length]? = some B' ∧ B = ⟨B'.ro, mvb T B'.c⟩ := by
  intro k B hk hB
  rw [List.getElem?_append_right (by rw [hbl]; exact hk), hbl] at hB
  simp only [List.getElem?_map, List.getElem?_drop, Option.map_eq_some_iff] at hB
  obtain ⟨B', h1, h2⟩ := hB
  exact ⟨B', by rw [← h1]; congr 1; omega, h2.symm⟩
 have hwr : ∀ {k : Nat} {B : Blk}, k < H.length → (back T τ Hc Hc' H ++ (Hc'.drop Hc.length).map (fun B => (⟨B.ro, mvb T B.c⟩ : Blk)))[k]? = some B → ∃ B0, H[k]? = some B0 ∧ B.ro = B0.ro := by
  intro k B hk hB
  rcases hold k B hk hB with ⟨h1, h2⟩ | ⟨j, B1, B', e1, e2, e3, e4, rfl⟩
  ·exact ⟨B, h1, rfl⟩
  ·obtain ⟨t, r, g1, g2, g3⟩ := emb_get hemb e2
   rw [e1] at g1; cases g1
   exact ⟨_, g2, (g3 e4).symm⟩
 refine ⟨_, _, σ', ?_, hK, ?_, ?_⟩
 ·rw [renS_mvs, renS_congr (m := Hc'.length) (fun k hk => hσT k hk) hvl]
 ·refine ⟨⟨?_, ?_, ?_⟩, ⟨sp.k.os, sp.k.tape, sp.k.output, sp.k.size, ?_⟩, by rw [hH'len]; omega, hσold, ?_, ?_⟩
  ·intro k B hB
   by_cases hk : k < H.length
   ·rcases hold k B hk hB with ⟨h1, h2⟩ | ⟨j, B1, B', e1, e2, e3, e4, rfl⟩
    ·obtain ⟨T', hT'⟩ := hh.at_ k B h1
     refine ⟨T', ?_⟩
     rw [hσold k hk, cellsB_congr (fun x hx => hσold x hx) (hh.clo k B h1)]
     rw [sp.k.old (σ k) (hh.lt hk) ?_]
     ·exact hT'
     ·intro j Bc hj hro
      obtain ⟨t, r, g1, g2, g3⟩ := emb_get hemb hj
      have htk : t ≠ k := fun e => by
       subst e
       have := h2 j Bc g1 hj
       rw [hro] at this; cases this
      have : T j = t := by rw [← hT]; exact tau_lt g1
      show σ k ≠ σ (T j)
      rw [this]
      exact (hh.sep t k _ htk hk g2 (g3 hro)).symm
    ·obtain ⟨T', hT'⟩ := sp.h.at_ j B' e3
     refine ⟨T', ?_⟩
     have hj : j < Hc'.length := (List.getElem?_eq_some_iff.1 e3).1
     have h1 := hσT j hj
     have : T j = k := by rw [← hT]; exact tau_lt e1
     rw [this] at h1
     rw [h1, hcb (sp.h.clo j B' e3), frz_mvb]
     exact hT'
   ·obtain ⟨B', h1, rfl⟩ := hnew k B (by omega) hB
    obtain ⟨T', hT'⟩ := sp.h.at_ _ B' h1
    refine ⟨T', ?_⟩
    rw [hcb (sp.h.clo _ B' h1), frz_mvb]
    simp only [σ']
    rw [if_neg hk]
    exact hT'
  ·intro j k B hjk hk hB hro
   rw [hH'len] at hk
   by_cases hk1 : k < H.length
   ·by_cases hj1 : j < H.length
    ·obtain ⟨B0, g1, g2⟩ := hwr hj1 hB
     rw [hσold k hk1, hσold j hj1]
     exact hh.sep j k B0 hjk hk1 g1 (by rw [← g2]; exact hro)
    ·obtain ⟨B', h1, rfl⟩ := hnew j B (by omega) hB
     have hjl := (List.getElem?_eq_some_iff.1 h1).1
     have := sp.fresh (j - H.length + τ.length) (by omega) hjl
     have h2 := hh.lt hk1
     rw [hσold k hk1]
     simp only [σ']
     rw [if_neg hj1]
     omega
   ·have hkf : w.heap.size ≤ σ' k := by
     simp only [σ']
     rw [if_neg hk1]
     exact sp.fresh _ (by omega) (by omega)
    by_cases hj1 : j < H.length
    ·rw [hσold j hj1]
     have := hh.lt hj1
     omega
    ·obtain ⟨B', h1, rfl⟩ := hnew j B (by omega) hB
     simp only [σ']
     rw [if_neg hj1, if_neg hk1]
     exact sp.h.sep _ _ B' (by omega) (by omega) h1 hro
  ·intro k B hB
   rw [hH'len]
   by_cases hk : k < H.length
   ·rcases hold k B hk hB with ⟨h1, h2⟩ | ⟨j, B1, B', e1, e2, e3, e4, rfl⟩
    ·exact Bk.lt_mono (by omega) (hh.clo k B h1)
    ·exact mvb_lt hTm (sp.h.clo j B' e3)
   ·obtain ⟨B', h1, rfl⟩ := hnew k B (by omega) hB
    exact mvb_lt hTm (sp.h.clo _ B' h1)
  ·intro b hb hn
   refine sp.k.old b hb ?_
   intro j Bc hj hro
   obtain ⟨t, r, g1, g2, g3⟩ := emb_get hemb hj
   have : T j = t := by rw [← hT]; exact tau_lt g1
   show b ≠ σ (T j)
   rw [this]
   exact hn t _ g2 (g3 hro)
  ·intro k B B' h1 h2
   have hk : k < H.length := (List.getElem?_eq_some_iff.1 h1).1
   obtain ⟨B0, g1, g2⟩ := hwr hk h2
   rw [h1] at g1; cases g1
   exact g2
  ·intro k h1 h2
   rw [hH'len] at h2
   simp only [σ']
   rw [if_neg (by omega)]
   exact sp.fresh _ (by omega) (by omega)
 ·rw [hH'len]
  exact mvs_lt hTm hvl

theorem call_sound {f : Nat} {l : List At} (hh : HRel ρ σ w H) (hv : vcall P ρ H f l K) :
  Calls P (ρ f) (l.map (ren ρ σ)).toArray w fun e w' => ∃ v H' σ', e = .returned (renS ρ σ' v) ∧ K v H' ∧ Sp ρ σ H w σ' H' w' ∧ v.lt H'.length = true := by
 obtain ⟨m, τ, as, Hc, v, Hc', H', h0, hok, h1, h2, h3, h4, h5⟩ := hv
 refine call_soundR hh ⟨m, τ, as, Hc, fun u G => u = v ∧ G = Hc', h0, ?_, h1, h2, h3, ?_⟩
 ·intro σ w hh
  refine (hok σ w hh).mono ?_
  rintro e w' ⟨σ', he, sp, hl⟩
  exact ⟨v, Hc', σ', ⟨rfl, rfl⟩, he, sp, hl⟩
 ·rintro _ _ ⟨rfl, rfl⟩
  rw [h4]; exact h5

theorem fnOk_enter {f : FuncId} (h : fnOk P f = true) (args : Array Value) : (callFunc f args).run P w = .ok (.enter f args) w := by
 unfold fnOk at h
 split at h
 ·rename_i fn hf
  simp only [Bool.and_eq_true, bne_iff_ne, ne_eq] at h
  obtain ⟨h1, h2⟩ := h
  obtain ⟨c, hc⟩ := Option.isSome_iff_exists.1 h2
  simp [callFunc, hf, h1, hc]
 ·cases h

theorem enter_wp {f : Nat} {l : List At} (hn : Nx ρ σ H w o a K next) (hh : HRel ρ σ w H) (hv : vcall P ρ H f l K)
  (hrun : (execOp a.eval o).run P w = .ok (.enter (ρ f) (l.map (ren ρ σ)).toArray) w) : o.wp P a w next Q := by
 unfold Oper.wp
 rw [hrun]
 refine (call_sound hh hv).mono ?_
 rintro e w' ⟨v, H', σ', rfl, hK, sp, hl⟩
 exact hn v H' σ' w' hK sp hl

theorem s_call {f' : Nat} {as' : List Ar} (hc : chkOp P ρ o.op (.call f' as') = true) (hf : FRel ρ σ a.tmps fr H.length) (hh : HRel ρ σ w H) (hv : vop P ρ fr H (.call f' as') K) (hn : Nx ρ σ H w o a K next) : o.wp P a w next Q := by
 simp only [vop] at hv
 split at hv
 ·rename_i l hl
  simp only [chkOp] at hc
  split at hc
  ·rename_i c ho
   simp only [Bool.and_eq_true] at hc
   obtain ⟨h1, h2⟩ := hc
   split at h1
   ·rename_i f hcal
    simp only [Bool.and_eq_true, beq_iff_eq] at h1
    obtain ⟨rfl, h3⟩ := h1
    obtain ⟨e1, -⟩ := atoms_sound (a := a) h2 hf hl
    refine enter_wp hn hh hv ?_
    have r1 : Array.map a.eval c.args = (l.map (ren ρ σ)).toArray := by apply Array.ext'; rw [Array.toList_map, e1]
    simp [execOp, ho, resolve, hcal, Act.eval, Deferred.ofValue, invoke]
    have r1' : Array.map (fun x => a.eval x) c.args = (l.map (ren ρ σ)).toArray := r1
    first
     | (rw [r1, fnOk_enter h3])
     | (rw [r1', fnOk_enter h3])
   ·cases h1
  ·cases hc
 ·exact hv.elim

theorem enter_wpR {f : Nat} {l : List At} (hn : Nx ρ σ H w o a K next) (hh : HRel ρ σ w H) (hv : vcall P ρ H f l K ∨ vcallR P ρ H f l K)
  (hrun : (execOp a.eval o).run P w = .ok (.enter (ρ f) (l.map (ren ρ σ)).toArray) w) : o.wp P a w next Q := by
 rcases hv with hv | hv
 ·exact enter_wp hn hh hv hrun
 unfold Oper.wp
 rw [hrun]
 refine (call_soundR hh hv).mono ?_
 rintro e w' ⟨v, H', σ', rfl, hK, sp, hl⟩
 exact hn v H' σ' w' hK sp hl

theorem s_callR {f' : Nat} {as' : List Ar} (hc : chkOp P ρ o.op (.call f' as') = true) (hf : FRel ρ σ a.tmps fr H.length) (hh : HRel ρ σ w H) (hv : vopR P ρ fr H (.call f' as') K) (hn : Nx ρ σ H w o a K next) : o.wp P a w next Q := by
 simp only [vopR] at hv
 split at hv
 ·rename_i l hl
  simp only [chkOp] at hc
  split at hc
  ·rename_i c ho
   simp only [Bool.and_eq_true] at hc
   obtain ⟨h1, h2⟩ := hc
   split at h1
   ·rename_i f hcal
    simp only [Bool.and_eq_true, beq_iff_eq] at h1
    obtain ⟨rfl, h3⟩ := h1
    obtain ⟨e1, -⟩ := atoms_sound (a := a) h2 hf hl
    refine enter_wpR hn hh hv ?_
    have r1 : Array.map a.eval c.args = (l.map (ren ρ σ)).toArray := by apply Array.ext'; rw [Array.toList_map, e1]
    simp [execOp, ho, resolve, hcal, Act.eval, Deferred.ofValue, invoke]
    have r1' : Array.map (fun x => a.eval x) c.args = (l.map (ren ρ σ)).toArray := r1
    first
     | (rw [r1, fnOk_enter h3])
     | (rw [r1', fnOk_enter h3])
   ·cases h1
  ·cases hc
 ·exact hv.elim

/-- the functions that a function value may be of -/
def fnsOk (P : Program) (ρ : Nat → FuncId) (n : Nat) : Prop := ∀ f, f < n → fnOk P (ρ f) = true

theorem s_calv {y : Ar} {as' : List Ar} (hfn : ∀ f, fnOk P (ρ f) = true) (hc : chkOp P ρ o.op (.calv y as') = true) (hf : FRel ρ σ a.tmps fr H.length) (hh : HRel ρ σ w H) (hv : vop P ρ fr H (.calv y as') K) (hn : Nx ρ σ H w o a K next) : o.wp P a w next Q := by
 simp only [vop] at hv
 split at hv
 ·rename_i f first caps l he hl
  simp only [chkOp] at hc
  split at hc
  ·rename_i c ho
   simp only [Bool.and_eq_true] at hc
   obtain ⟨h1, h2⟩ := hc
   split at h1
   ·rename_i t hcal
    obtain ⟨e1, -⟩ := atoms_sound (a := a) h2 hf hl
    obtain ⟨e0, -⟩ := chkAr_sound h1 hf he
    refine enter_wp hn hh hv ?_
    have r1 : Array.map a.eval c.args = (l.map (ren ρ σ)).toArray := by apply Array.ext'; rw [Array.toList_map, e1]
    have r2 : ((List.map (fun p : Nat × Nat => At.pt p.1 p.2) first ++ l ++ List.map (fun p : Nat × Nat => At.pt p.1 p.2) caps).map (ren ρ σ)).toArray = (first.map (pv σ)).toArray ++ (l.map (ren ρ σ)).toArray ++ (caps.map (pv σ)).toArray := by
     have z : ∀ q : List (Nat × Nat), List.map (ren ρ σ) (List.map (fun p : Nat × Nat => At.pt p.1 p.2) q) = q.map (pv σ) := by
      intro q; rw [List.map_map]; exact List.map_congr_left fun p _ => rfl
     simp [z]
    rw [r2]
    have r1' : Array.map (fun x => a.eval x) c.args = (l.map (ren ρ σ)).toArray := r1
    simp only [execOp, ho, resolve, hcal, e0, renS, ren, Deferred.ofValue, Sem.run_bind, Sem.run_pure, Result.andThen_ok, invoke, r1]
    rw [fnOk_enter (hfn f)]
   ·cases h1
  ·cases hc
 ·exact hv.elim
end
end Hf
