/- The engine, second layer: operations told by hypotheses, regions in any order, loops over relations. -/
import Derived.Test.YtkkjaohppodccabGreatA
import Derived.Laws.Append
import Derived.Laws.AppendOwn
import Derived.Laws.MakeOwn
set_option linter.unusedVariables false
set_option linter.unusedSimpArgs false
/- The second layer of the engine, part 1: operations whose blocks are told by hypotheses; what they say and what they are checked against. -/
namespace Hf
open Go
inductive QO where
 | o (p : PO)
 | lda (x : Ar) (h n : Nat)
 | ldf (x : Ar) (n : Nat)
 | ld1 (x : Ar)
 | sta (x v : Ar) (n : Nat)
 | st1 (x v : Ar)
 | call (f : Nat) (as : List Ar)
 | calp (f : Nat) (as : List Ar)
 | calv (x : Ar) (as : List Ar)
 | len (x : Ar)
 | ids (x i : Ar) (esz : Nat)
 | apb (esz bytes : Nat) (x y : Ar)
 | apr (z : C1) (bytes : Nat) (x y : Ar)
 | mkb (esz bytes : Nat) (x : Ar)
 | mkr (z : C1) (bytes : Nat) (x : Ar)
 | bsy (xs : List Ar)
 | sla (x : Ar) (lo hi : Option Ar) (n esz : Nat)
 | slc (x : Ar) (lo hi : Option Ar) (esz : Nat)
 | sap (x : Ar) (n : Nat)
 | bac (z : List C1) (ps : List (Nat × Nat × Ar))
 | bxc (x : Ar)
 | alc (z : List C1)
 | bnu (op : BinOp) (x y : Ar)
 | cvu (x : Ar)
 | mxm (mn : Bool) (x y : Ar)
 | brc (z : List At) (ps : List (Nat × Nat × Ar))
 | bxr (x : Ar)
 | eqs (neg : Bool) (h n : Nat) (fs : List (Nat × Nat)) (x y : Ar)
 | fld (x : Ar) (off n : Nat)
 deriving Inhabited

/-- what stands in a cell -/
def cat : Bk → Nat → Option At
  | .by hd N f, x => if x < N then (match hd[x]? with
    | some z => some (.i .i64 z)
    | none => some (.u (f x))) else none
  | .vr a, x => if x = 0 then some a else none
  | .rw l, x => l[x]?
  | .gs _ _, _ => none
  | .fo cs _, x => match cs[x]? with
    | some (.int .u8 n) => if 0 ≤ n ∧ n ≤ 255 then some (.u (byt n)) else none
    | _ => none
/-- a cell written -/
def cput : Bk → Nat → At → Option Bk
  | .by hd N f, x, a => match a with
    | .i .i64 z => if x < hd.length ∧ x < N then some (.by (hd.set x z) N f) else none
    | .u v => if hd.length ≤ x ∧ x < N then some (.by hd N (upd f x v)) else none
    | _ => none
  | .vr _, x, a => if x = 0 ∧ a.cell1 = true then some (.vr a) else none
  | .rw l, x, a => if x < l.length ∧ a.cell1 = true then some (.rw (l.set x a)) else none
  | .gs _ _, _, _ | .fo _ _, _, _ => none
/-- cells written in a row -/
def cputs : Bk → Nat → At → Nat → Option Bk
  | .by hd N f, off, .ag [] m g, n => if m = n ∧ hd.length ≤ off ∧ off + n ≤ N then some (.by hd N (spl f off n g)) else none
  | .by hd N _, off, .ag (z :: zs) m g, n => if off = 0 ∧ m = n ∧ n = N ∧ (z :: zs).length = hd.length then some (.by (z :: zs) N g) else none
  | .rw l, off, .ac q, n => if off = 0 ∧ q.length = n ∧ l.length = n then some (.rw (q.map C1.at)) else none
  | _, _, _, _ => none

/-- the same cells -/
def eqBk : Bk → Bk → Prop
  | .by hd N f, .by hd' N' f' => hd' = hd ∧ N' = N ∧ ∀ x, hd.length ≤ x → x < N → f x = f' x
  | a, b => b = a
theorem eqBk_rfl : ∀ {c : Bk}, eqBk c c
  | .by _ _ _ => ⟨rfl, rfl, fun _ _ _ => rfl⟩
  | .vr _ | .rw _ | .gs _ _ | .fo _ _ => rfl

/-- a slice of bytes that is read: m parts, g -/
def rdB (H : List Blk) (esz : Nat) : At → Nat → By → Prop
  | .sl k o m' _, m, g => m' = m ∧ ∃ r N f, H[k]? = some ⟨r, .by [] N f⟩ ∧ o + m * esz ≤ N ∧ ∀ x, x < m * esz → g x = f (o + x)
  | .sn, m, _ => m = 0
  | _, _, _ => False
def rdR (H : List Blk) : At → List At → Prop
  | .sl k o m' _, L => ∃ r l, H[k]? = some ⟨r, .rw l⟩ ∧ o + m' ≤ l.length ∧ (l.drop o).take m' = L
  | .sn, L => L = []
  | _, _ => False
def apf (esz n m : Nat) (f g : By) : By := fun x => if x < n * esz then f x else if x < (n + m) * esz then g (x - n * esz) else 0

def lenA : At → Option Nat
  | .sl _ _ n _ => some n
  | .sn => some 0
  | _ => none
/-- an append of bytes hands over a slice and blocks of which R holds -/
def apB (esz bytes : Nat) (H : List Blk) (ax ay : At) (R : At → List Blk → Prop) : Prop := match ax with
  | .sl k off n cap => ∃ m g N f, rdB H esz ay m g ∧ H[k]? = some ⟨false, .by [] N f⟩ ∧ (off + cap * esz ≤ N ∧ n ≤ cap ∧ (n + m) * bytes ≤ 140737488355328 ∧ n + m ≤ 140737488355328) ∧
        (n + m ≤ cap → R (.sl k off (n + m) cap) (H.set k ⟨false, .by [] N (spl f (off + n * esz) (m * esz) g)⟩)) ∧
        (cap < n + m → ∀ cap', n + m ≤ cap' → R (.sl H.length 0 (n + m) cap') (H ++ [⟨false, .by [] (cap' * esz) (apf esz n m (sh f off) g)⟩]))
  | .sn => ∃ m g, rdB H esz ay m g ∧ (0 < m ∧ m * bytes ≤ 140737488355328 ∧ m ≤ 140737488355328) ∧
        ∀ cap', m ≤ cap' → R (.sl H.length 0 m cap') (H ++ [⟨false, .by [] (cap' * esz) (apf esz 0 m (fun _ => 0) g)⟩])
  | _ => False
def apR (z : C1) (bytes : Nat) (H : List Blk) (ax ay : At) (R : At → List Blk → Prop) : Prop := match ax with
  | .sl k off n cap => ∃ L l, rdR H ay L ∧ H[k]? = some ⟨false, .rw l⟩ ∧ (off + cap ≤ l.length ∧ n ≤ cap ∧ (n + L.length) * bytes ≤ 140737488355328 ∧ n + L.length ≤ 140737488355328) ∧
        (n + L.length ≤ cap → R (.sl k off (n + L.length) cap) (H.set k ⟨false, .rw (l.take (off + n) ++ L ++ l.drop (off + n + L.length))⟩)) ∧
        (cap < n + L.length → ∀ cap', n + L.length ≤ cap' → R (.sl H.length 0 (n + L.length) cap') (H ++ [⟨false, .rw ((l.drop off).take n ++ L ++ List.replicate (cap' - (n + L.length)) z.at)⟩]))
  | .sn => ∃ L, rdR H ay L ∧ (0 < L.length ∧ L.length * bytes ≤ 140737488355328 ∧ L.length ≤ 140737488355328) ∧
        ∀ cap', L.length ≤ cap' → R (.sl H.length 0 L.length cap') (H ++ [⟨false, .rw (L ++ List.replicate (cap' - L.length) z.at)⟩])
  | _ => False

def layC (fr : List (Nat × Sv)) (K : Sv → Prop) : List (Nat × Nat × Ar) → List C1 → Prop
  | [], l => K (.one (.ac l))
  | (off, sz, x) :: r, l => match ev fr x with
    | some (.one (.i .i64 z)) => match Nat.blt off l.length && Nat.beq sz 1 with
      | true => layC fr K r (l.set off (.i z))
      | false => False
    | some (.one (.ag hd n _)) => match Nat.ble (off + n) l.length && Nat.beq sz n && Nat.beq hd.length n with
      | true => layC fr K r (l.take off ++ hd.map C1.i ++ l.drop (off + n))
      | false => False
    | _ => False

/-- numbers without sign -/
def uval (op : BinOp) (m n : Int) : Option Int := match op with
  | .add => some (IntKind.u64.wrap (m + n))
  | .mul => some (IntKind.u64.wrap (m * n))
  | .and => some (IntKind.u64.wrap (BitVec.ofInt 64 m &&& BitVec.ofInt 64 n).toNat)
  | .shr => if n < 0 then none else some (m.fdiv (2 ^ (min n.toNat 64)))
  | _ => none
def mxv (mn : Bool) (m n : Int) : Int := match mn with
  | true => if n < m then n else m
  | false => if n > m then n else m
def layR (fr : List (Nat × Sv)) (K : Sv → Prop) : List (Nat × Nat × Ar) → List At → Prop
  | [], l => K (.rc l)
  | (off, sz, x) :: r, l => match ev fr x with
    | some (.one a) => match Nat.blt off l.length && Nat.beq sz 1 with
      | true => a.cell1 = true ∧ layR fr K r (l.set off a)
      | false => False
    | _ => False
/-- values with words in front are the same -/
def eqSt (fs : List (Nat × Nat)) (hd hd' : List Int) (f g : By) : Bool := (hd == hd') && fs.all fun p => eqB p.2 (sh f p.1) (sh g p.1)

section
variable (P : Program) (ρ : Nat → FuncId)
def vopE (fr : List (Nat × Sv)) (H : List Blk) (q : QO) (K : Sv → List Blk → Prop) : Prop :=
  match q with
  | .o p => vop P ρ fr H p K
  | .lda x h n => match ev fr x with
    | some (.one (.pt k off)) => match h with
      | 0 => ∃ r hd N f g, H[k]? = some ⟨r, .by hd N f⟩ ∧ (hd.length ≤ off ∧ off + n ≤ N) ∧ (∀ x, x < n → g x = f (off + x)) ∧ K (.one (.ag [] n g)) H
      | _ + 1 => (∃ r hd N f, H[k]? = some ⟨r, .by hd N f⟩ ∧ (off = 0 ∧ n ≤ N) ∧ K (.one (.ag hd n f)) H) ∨
          ∃ r l hd, H[k]? = some ⟨r, .rw l⟩ ∧ ((l.drop off).take n = hd.map (At.i .i64) ∧ hd.length = n) ∧ K (.one (.ag hd n fun _ => 0)) H
    | _ => False
  | .ldf x n => match ev fr x with
    | some (.one (.pt k off)) => ∃ r cs fz g, H[k]? = some ⟨r, .fo cs fz⟩ ∧ (∀ y, y < n → cs[off + y]? = some (.int .u8 (((g : By) y).toNat : Int))) ∧ K (.one (.ag [] n g)) H
    | _ => False
  | .ld1 x => match ev fr x with
    | some (.one (.pt k off)) => ∃ B a, H[k]? = some B ∧ cat B.c off = some a ∧ K (.one a) H
    | _ => False
  | .sta x v n => match ev fr x, ev fr v with
    | some (.one (.pt k off)), some (.one a) => ∃ c c1 c', H[k]? = some ⟨false, c⟩ ∧ cputs c off a n = some c1 ∧ eqBk c1 c' ∧ K (.tup []) (H.set k ⟨false, c'⟩)
    | _, _ => False
  | .st1 x v => match ev fr x, ev fr v with
    | some (.one (.pt k off)), some (.one a) => ∃ c c1 c', H[k]? = some ⟨false, c⟩ ∧ cput c off a = some c1 ∧ eqBk c1 c' ∧ K (.tup []) (H.set k ⟨false, c'⟩)
    | _, _ => False
  | .call f as => match atoms (as.map (ev fr)) with
    | some l => ∃ Q, CallR P ρ f l H Q ∧ ∀ v H', Q v H' → K v H'
    | none => False
  | .calp f as => match atoms (as.map (ev fr)) with
    | some l => ∃ v, CallOK P ρ f l [] v [] ∧ (l.all (·.lt 0) && v.lt 0) = true ∧ K v H
    | none => False
  | .calv x as => match ev fr x, atoms (as.map (ev fr)) with
    | some (.one (.fn f first caps)), some l => ∃ Q, CallR P ρ f (first.map (fun p => .pt p.1 p.2) ++ l ++ caps.map (fun p => .pt p.1 p.2)) H Q ∧ ∀ v H', Q v H' → K v H'
    | _, _ => False
  | .len x => match ev fr x with
    | some (.one a) => ∃ n : Nat, lenA a = some n ∧ K (.one (.i .i64 (n : Int))) H
    | _ => False
  | .ids x i esz => match ev fr x, ev fr i with
    | some (.one a), some (.one (.i .i64 z)) => ∃ k off len cap x q : Nat, a = .sl k off len cap ∧ z = (x : Int) ∧ x < len ∧ off + x * esz = q ∧ K (.one (.pt k q)) H
    | _, _ => False
  | .apb esz bytes x y => match ev fr x, ev fr y with
    | some (.one ax), some (.one ay) => ∃ R, apB esz bytes H ax ay R ∧ ∀ a' H', R a' H' → K (.one a') H'
    | _, _ => False
  | .apr z bytes x y => match ev fr x, ev fr y with
    | some (.one ax), some (.one ay) => ∃ R, apR z bytes H ax ay R ∧ ∀ a' H', R a' H' → K (.one a') H'
    | _, _ => False
  | .mkb esz bytes x => match ev fr x with
    | some (.one (.i .i64 z)) => ∃ n m : Nat, (z = (n : Int) ∧ n ≤ 1000000000 ∧ bytes ≤ 100) ∧ H.length = m ∧ K (.one (.sl m 0 n n)) (H ++ [⟨false, .by [] (n * esz) fun _ => 0⟩])
    | _ => False
  | .mkr z bytes x => match ev fr x with
    | some (.one (.i .i64 y)) => ∃ n m : Nat, (y = (n : Int) ∧ n ≤ 1000000000 ∧ bytes ≤ 100) ∧ H.length = m ∧ K (.one (.sl m 0 n n)) (H ++ [⟨false, .rw (List.replicate n z.at)⟩])
    | _ => False
  | .bsy xs => match atoms (xs.map (ev fr)) with
    | some l => ∃ (us : List UInt8) (m : Nat), l = us.map At.u ∧ H.length = m ∧ K (.one (.sl m 0 us.length us.length)) (H ++ [⟨false, .by [] us.length fun x => us.getD x 0⟩])
    | none => False
  | .sla x lo hi n esz => match ev fr x with
    | some (.one (.pt k off)) =>
      match evo fr 0 lo, evo fr (n : Int) hi with
      | some (.one (.i .i64 l)), some (.one (.i .i64 h)) => ∃ a b : Nat, l = (a : Int) ∧ h = (b : Int) ∧ (a ≤ b ∧ b ≤ n ∧ a < n) ∧ K (.one (.sl k (off + a * esz) (b - a) (n - a))) H
      | _, _ => False
    | _ => False
  | .slc x lo hi esz => match ev fr x with
    | some (.one (.sl k off len cap)) =>
      match evo fr 0 lo, evo fr (len : Int) hi with
      | some (.one (.i .i64 l)), some (.one (.i .i64 h)) => ∃ a b : Nat, l = (a : Int) ∧ h = (b : Int) ∧ (a ≤ b ∧ b ≤ cap) ∧ K (.one (.sl k (if cap = a then off else off + a * esz) (b - a) (cap - a))) H
      | _, _ => False
    | some (.one .sn) =>
      match evo fr 0 lo, evo fr 0 hi with
      | some (.one (.i .i64 l)), some (.one (.i .i64 h)) => (l = 0 ∧ h = 0) ∧ K (.one .sn) H
      | _, _ => False
    | _ => False
  | .sap x n => match ev fr x with
    | some (.one (.sl k off len _)) => n ≤ len ∧ K (.one (.pt k off)) H
    | _ => False
  | .bac z ps => layC fr (fun v => K v H) ps z
  | .bxc x => match ev fr x with
    | some (.one (.ac l)) => ∃ m, H.length = m ∧ K (.one (.pt m 0)) (H ++ [⟨false, .rw (l.map C1.at)⟩])
    | _ => False
  | .alc z => ∃ m, H.length = m ∧ K (.one (.pt m 0)) (H ++ [⟨false, .rw (z.map C1.at)⟩])
  | .bnu op x y => match ev fr x, ev fr y with
    | some (.one (.i .u64 m)), some (.one (.i .u64 n)) => ∃ z, uval op m n = some z ∧ K (.one (.i .u64 z)) H
    | _, _ => False
  | .cvu x => match ev fr x with
    | some (.one (.i _ n)) => ∃ z, IntKind.u64.wrap n = z ∧ K (.one (.i .u64 z)) H
    | some (.one (.u c)) => K (.one (.i .u64 (c.toNat : Int))) H
    | _ => False
  | .mxm mn x y => match ev fr x, ev fr y with
    | some (.one (.i .i64 m)), some (.one (.i .i64 n)) => ∃ z, mxv mn m n = z ∧ K (.one (.i .i64 z)) H
    | _, _ => False
  | .brc z ps => layR fr (fun v => K v H) ps z
  | .bxr x => match ev fr x with
    | some (.rc l) => ∃ m, H.length = m ∧ l.all At.cell1 = true ∧ K (.one (.pt m 0)) (H ++ [⟨false, .rw l⟩])
    | _ => False
  | .eqs neg h n fs x y => match ev fr x, ev fr y with
    | some (.one (.ag hd m f)), some (.one (.ag hd' m' g)) => match Nat.beq m n && Nat.beq m' n && Nat.beq hd.length h && Nat.beq hd'.length h with
      | true => ∃ b, eqSt fs hd hd' f g = b ∧ K (.one (.b (match neg with | true => !b | false => b))) H
      | false => False
    | _, _ => False
  | .fld x off n => match ev fr x with
    | some (.one (.ag hd m f)) => (hd.length ≤ off ∧ off + n ≤ m) ∧ K (.one (.ag [] n (sh f off))) H
    | _ => False
end
/-! ### the check -/
def bytT (P : Program) (t : TypeId) : Option Nat := (P.info? t).map (·.bytes)
def zeroC (P : Program) (t : TypeId) (z : List C1) : Bool := match (P.info? t).bind (·.zero) with
  | some (.agg cs) => cs.toList.length == z.length && (cs.toList.zip z).all fun p => match p.1, p.2 with
    | .int k n, .i m => k == .i64 && n == m
    | .bool x, .b y => x == y
    | .slice none 0 0, .sn => true
    | _, _ => false
  | _ => false
def zero1 (P : Program) (t : TypeId) (z : C1) : Bool := match (P.info? t).bind (·.zero) with
  | some (.int k n) => k == .i64 && (match z with | .i m => n == m | _ => false)
  | some (.bool x) => (match z with | .b y => x == y | _ => false)
  | some (.slice none 0 0) => (match z with | .sn => true | _ => false)
  | _ => false
def chkOpt (ρ : Nat → FuncId) : Option Operand → Option Ar → Bool
  | none, none => true
  | some u, some v => chkAr ρ u v
  | _, _ => false
def slT (P : Program) (t : TypeId) : Option TypeId := match P.underlying t with
  | some (.slice e) => some e
  | _ => none

/-- an append: operands, element type -/
def chkApp (P : Program) (ρ : Nat → FuncId) (o : Op) (x y : Ar) (k : TypeId → Bool) : Bool := match o with
  | .call c => (match c.callee with | .builtin .append => true | _ => false) && (match c.args.toList with | [u, v] => chkAr ρ u x && chkAr ρ v y | _ => false) &&
      (match c.argTypes.toList with | [t, t'] => t == t' && (match slT P t with | some e => k e | none => false) | _ => false)
  | _ => false

def zeroA (P : Program) (t : TypeId) (z : List At) : Bool := match (P.info? t).bind (·.zero) with
  | some (.agg cs) => cs.toList.length == z.length && (cs.toList.zip z).all fun p => isVal p.1 p.2 && p.2.cell1
  | _ => false
/-- fields of a struct: h words, then rows of bytes -/
def chkFl (P : Program) : Nat → Nat → List Field → List (Nat × Nat) → Bool
  | h + 1, j, f :: r, fs => f.name != "_" && f.offset == j && intT P f.type == some .i64 && chkFl P h (j + 1) r fs
  | 0, _, [], [] => true
  | 0, j, f :: r, (off, n) :: fs => f.name != "_" && f.offset == off && sizeT P f.type == some n && arrT P 20 f.type n && (match P.underlying f.type with | some (.array _ _) => true | _ => false) && chkFl P 0 j r fs
  | _, _, _, _ => false

def chkQ (P : Program) (ρ : Nat → FuncId) (o : Op) (q : QO) : Bool :=
  match q with
  | .o p => chkOp P ρ o p
  | .lda y _ n => match o with
    | .load t x => aggT P t == some n && chkAr ρ x y
    | _ => false
  | .ldf y n => match o with
    | .load t x => aggT P t == some n && chkAr ρ x y
    | _ => false
  | .ld1 y => match o with
    | .load t x => oneT P t && chkAr ρ x y
    | _ => false
  | .sta y u n => match o with
    | .store t x v => sizeT P t == some n && chkAr ρ x y && chkAr ρ v u
    | _ => false
  | .st1 y u => match o with
    | .store t x v => sizeT P t == some 1 && chkAr ρ x y && chkAr ρ v u
    | _ => false
  | .call f' as' => chkOp P ρ o (.call f' as')
  | .calp f' as' => chkOp P ρ o (.call f' as')
  | .calv y as' => chkOp P ρ o (.calv y as')
  | .len y => chkOp P ρ o (.len y)
  | .ids y i esz => chkOp P ρ o (.ids y i esz)
  | .apb esz bytes x y => esz != 0 && chkApp P ρ o x y fun e => sizeT P e == some esz && bytT P e == some bytes && (zeroOk P e (.by 0 esz) || (esz == 1 && zeroOk P e .u))
  | .apr z bytes x y => chkApp P ρ o x y fun e => sizeT P e == some 1 && bytT P e == some bytes && zero1 P e z
  | .mkb esz bytes y => match o with
    | .makeSlice t l c => esz != 0 && chkAr ρ l y && chkAr ρ c y && (match slT P t with | some e => sizeT P e == some esz && bytT P e == some bytes && (zeroOk P e (.by 0 esz) || (esz == 1 && zeroOk P e .u)) | none => false)
    | _ => false
  | .mkr z bytes y => match o with
    | .makeSlice t l c => chkAr ρ l y && chkAr ρ c y && (match slT P t with | some e => sizeT P e == some 1 && bytT P e == some bytes && zero1 P e z | none => false)
    | _ => false
  | .bsy ys => chkOp P ρ o (.bsa ys)
  | .sla y lo' hi' n esz => match o with
    | .slice t x lo hi mx => chkAr ρ x y && mx.isNone && chkOpt ρ lo lo' && chkOpt ρ hi hi' && (match P.underlying t with
      | some (.array len e) => len == n && sizeT P e == some esz
      | _ => false)
    | _ => false
  | .slc y lo' hi' esz => match o with
    | .slice t x lo hi mx => chkAr ρ x y && mx.isNone && chkOpt ρ lo lo' && chkOpt ρ hi hi' && (match P.underlying t with
      | some (.slice e) => sizeT P e == some esz
      | _ => false)
    | _ => false
  | .sap y n => match o with
    | .sliceToArrayPointer t x => chkAr ρ x y && (match P.underlying t with
      | some (.array len _) => len == n
      | _ => false)
    | _ => false
  | .bac z ps => match o with
    | .build t parts => zeroC P t z && match P.underlying t with
      | some (.struct fields) => chkPs P ρ (fun i => match fields[i]? with
        | some f => match sizeT P f.type with
          | some s => some (f.offset, s)
          | none => none
        | none => none) parts.toList ps && fields.all (fun f => (sizeT P f.type).isSome)
      | some (.array _ e) => match sizeT P e with
        | some s => chkPs P ρ (fun i => some (i * s, s)) parts.toList ps
        | none => false
      | _ => false
    | _ => false
  | .bxc y => match o with
    | .box _ x => chkAr ρ x y
    | _ => false
  | .alc z => match o with
    | .alloc t => zeroC P t z
    | _ => false
  | .bnu op' x' y' => match o with
    | .binOp op _ x y _ => decide (op = op') && chkAr ρ x x' && chkAr ρ y y'
    | _ => false
  | .cvu y => match o with
    | .convert s d x => (intT P s).isSome && intT P d == some .u64 && chkAr ρ x y
    | _ => false
  | .mxm mn x' y' => match o with
    | .call c => (match c.callee with | .builtin .max => !mn | .builtin .min => mn | _ => false) && (match c.args.toList with | [x, y] => chkAr ρ x x' && chkAr ρ y y' | _ => false)
    | _ => false
  | .brc z ps => match o with
    | .build t parts => zeroA P t z && match P.underlying t with
      | some (.struct fields) => chkPs P ρ (fun i => match fields[i]? with
        | some f => match sizeT P f.type with
          | some s => some (f.offset, s)
          | none => none
        | none => none) parts.toList ps && fields.all (fun f => (sizeT P f.type).isSome)
      | _ => false
    | _ => false
  | .bxr y => match o with
    | .box _ x => chkAr ρ x y
    | _ => false
  | .eqs neg h n fs x' y' => match o with
    | .binOp op t x y _ => decide (op = if neg then BinOp.neq else BinOp.eql) && (match P.underlying t with | some (.struct fields) => chkFl P h 0 fields.toList fs && fs.all (fun p => Nat.ble h p.1 && Nat.ble (p.1 + p.2) n) | _ => false) && !P.stoodInHeld t && !P.eqGuardType P.depth t && chkAr ρ x x' && chkAr ρ y y' && Nat.ble h n
    | _ => false
  | .fld y off n => match o with
    | .field t x j => chkAr ρ x y && match P.underlying t with
      | some (.struct fields) => match fields[j]? with
        | some f => f.offset == off && aggT P f.type == some n
        | none => false
      | _ => false
    | _ => false

/-! ### slots -/
def QO.sl : QO → List Nat
  | .o p => p.sl
  | .lda x _ _ => x.sl
  | .ldf x _ => x.sl
  | .ld1 x => x.sl
  | .sta x v _ => x.sl ++ v.sl
  | .st1 x v => x.sl ++ v.sl
  | .call _ as => slL as
  | .calp _ as => slL as
  | .calv x as => x.sl ++ slL as
  | .len x => x.sl
  | .ids x i _ => x.sl ++ i.sl
  | .apb _ _ x y => x.sl ++ y.sl
  | .apr _ _ x y => x.sl ++ y.sl
  | .mkb _ _ x => x.sl
  | .mkr _ _ x => x.sl
  | .bsy xs => slL xs
  | .sla x lo hi _ _ => x.sl ++ slO lo ++ slO hi
  | .slc x lo hi _ => x.sl ++ slO lo ++ slO hi
  | .sap x _ => x.sl
  | .bac _ ps => slP ps
  | .bxc x => x.sl
  | .alc _ => []
  | .bnu _ x y => x.sl ++ y.sl
  | .cvu x => x.sl
  | .mxm _ x y => x.sl ++ y.sl
  | .brc _ ps => slP ps
  | .bxr x => x.sl
  | .eqs _ _ _ _ x y => x.sl ++ y.sl
  | .fld x _ _ => x.sl
/-- does it change the blocks -/
def QO.heap : QO → Bool
  | .o p => !p.pure
  | .lda _ _ _ => false
  | .ldf _ _ => false
  | .ld1 _ => false
  | .sla _ _ _ _ _ => false
  | .slc _ _ _ _ => false
  | .sap _ _ => false
  | .calp _ _ => false
  | .len _ => false
  | .ids _ _ _ => false
  | .bac _ _ => false
  | .bnu _ _ _ => false
  | .cvu _ => false
  | .mxm _ _ _ => false
  | .brc _ _ => false
  | .eqs _ _ _ _ _ _ => false
  | .fld _ _ _ => false
  | _ => true
/-- does it read blocks -/
def QO.load : QO → Bool
  | .lda _ _ _ => true
  | .ldf _ _ => true
  | .ld1 _ => true
  | .o (.lda _ _ _) => true
  | .o (.ld8 _) => true
  | .o (.ld1 _) => true
  | _ => false
def ptBlk : Option Sv → List Nat
  | some (.one (.pt k _)) => [k]
  | _ => []
def QO.rd (fr : List (Nat × Sv)) : QO → List Nat
  | .lda x _ _ => ptBlk (ev fr x)
  | .ldf x _ => ptBlk (ev fr x)
  | .ld1 x => ptBlk (ev fr x)
  | .o (.lda x _ _) => ptBlk (ev fr x)
  | .o (.ld8 x) => ptBlk (ev fr x)
  | .o (.ld1 x) => ptBlk (ev fr x)
  | _ => []
end Hf
/- Append, on the model's side. -/
namespace Hf
open Go
section
variable {P : Program} {w : World}
theorem run_firstCells_at {size n : Nat} {b off cap : Nat} {cs : Array Value} {T : TypeId} {g : Nat → Value} (h : w.heap[b]? = some (.cells cs T (0, 0))) (hg : ∀ j, j < n * size → cs[off + j]? = some (g j)) :
  (Builtin.firstCells size n (.slice (some ⟨b, off, none⟩) n cap)).run P w = .ok ((List.range (n * size)).map g).toArray w := by
 simp only [Builtin.firstCells]
 exact run_cells h hg

theorem run_append_room {t ty e : TypeId} {size : Nat} (ht : P.underlying t = some (.slice e)) (hs : sizeT P e = some size) {b off n cap : Nat} {cs : Array Value} {T : TypeId} (h : w.heap[b]? = some (.cells cs T (0, 0)))
  {x : Value} {m : Nat} (hx : (Builtin.lenOf x).run P w = .ok m w) {news : Array Value} (hn : (Builtin.firstCells size m x).run P w = .ok news w) (hm : news.size = m * size) (hle : off + n * size + news.size ≤ cs.size) (h1 : ∀ u ∈ news.toList, u.oneCell' = true)
  (hroom : n + m ≤ cap) :
  (Builtin.append_ #[t, t] ty #[.slice (some ⟨b, off, none⟩) n cap, x]).run P w = .ok (.slice (some ⟨b, off, none⟩) (n + m) cap) (w.setRow b (cs.toList.take (off + n * size) ++ news.toList ++ cs.toList.drop (off + n * size + news.size)).toArray) := by
 have hst := run_storeCells_at (P := P) b (off + n * size) T news.toList 0 cs w h (by simpa using hle) h1
 simp only [Nat.add_zero, Array.length_toList] at hst
 simp [Builtin.append_, run_underlying' ht, run_sizeOf' hs, hx, hroom, hn, add_mk, hst]

theorem run_append_new {t ty e : TypeId} {i : TypeInfo} {z : Value} (ht : P.underlying t = some (.slice e)) (hi : P.info? e = some i) (hz : i.zero = some z) {base : Option Addr} {n cap : Nat} {olds : Array Value}
  (ho : (Builtin.firstCells i.size n (.slice base n cap)).run P w.drew = .ok olds w.drew)
  {x : Value} {m : Nat} (hx : (Builtin.lenOf x).run P w = .ok m w) {news : Array Value} (hn : (Builtin.firstCells i.size m x).run P w.drew = .ok news w.drew)
  (hg : cap < n + m) (h63 : n + m ≤ 9223372036854775807) (hb : (n + m) * i.bytes ≤ 140737488355328) :
  (Builtin.append_ #[t, t] ty #[.slice base n cap, x]).run P w =
   .ok (.slice (some ⟨w.heap.size, 0, none⟩) (n + m) (grownCap w (n + m) cap e)) (w.drew.alloc (.cells (olds ++ news ++ Builtin.zeroCells z.cells (grownCap w (n + m) cap e - (n + m))) e)) := by
 have hn' : ¬ (n + m ≤ cap) := by omega
 have h63' : ¬ (9223372036854775807 < ((n : Int) + (m : Int))) := by omega
 have hfit := growslice_fits hg hb
 have h48' : ¬ (281474976710656 < Builtin.nextslicecap (n + m) cap * i.bytes) := by omega
 simp [Builtin.append_, run_underlying' ht, Go.sizeOf, typeInfo, zeroValue, hi, hz, hx, hn', h63', h48', Question.forced, hn, ho, newRow, grownCap]
end
end Hf
/- The second layer, part 2: an operation that is checked does what is said of it. -/
namespace Hf
open Go
section
variable {P : Program} {ρ : Nat → FuncId} {σ : Nat → Nat} {H : List Blk} {w : World} {o : Oper} {a : Act} {fr : List (Nat × Sv)} {K : Sv → List Blk → Prop}
variable {next : Act → World → Prop} {Q : Exit → Act → World → Prop}
theorem blt_t {a b : Nat} (h : a < b) : Nat.blt a b = true := by rw [Nat.blt_eq]; exact h

theorem e_lda {y : Ar} {h n : Nat} (hc : chkQ P ρ o.op (.lda y h n) = true) (hf : FRel ρ σ a.tmps fr H.length) (hh : HRel ρ σ w H) (hv : vopE P ρ fr H (.lda y h n) K) (hn : Nx ρ σ H w o a K next) : o.wp P a w next Q := by
 simp only [vopE] at hv
 split at hv
 ·rename_i k off he
  cases h with
  | zero =>
   obtain ⟨r, hd, N, f, g, hk, hb, hg, hv⟩ := hv
   obtain ⟨T, hT⟩ := blk_of hh hk
   simp only [chkQ] at hc
   split at hc
   ·rename_i t x ho
    simp only [Bool.and_eq_true, beq_iff_eq] at hc
    obtain ⟨h1, h2⟩ := hc
    obtain ⟨q1, -⟩ := chkAr_sound h2 hf he
    refine here hn hh hv rfl rfl ?_
    have := run_loadAgg (P := P) (off := off) (g := fun j => cel [] g j) h1 hT (fun j hj => by
     rw [cellsB_by, cellsOf_get _ _ _ _ (by omega), cel_by (by omega), cel_by (by simp), hg j hj])
    simp [execOp, ho, q1, renS, ren, Instr.loadAt, Instr.sureAddr, this, cellsOf]
   ·cases hc
  | succ h =>
   rcases hv with ⟨r, hd, N, f, hk, ⟨h0, hb⟩, hv⟩ | ⟨r, l, hd, hk, ⟨e1, e2⟩, hv⟩
   ·refine s_lda (h := h + 1) (K := K) hc hf hh ?_ hn
    subst h0
    simp only [vop, he, hk]
    rw [Nat.ble_eq_true_of_le hb]
    exact hv
   ·obtain ⟨T, hT⟩ := blk_of hh hk
    simp only [chkQ] at hc
    split at hc
    ·rename_i t x ho
     simp only [Bool.and_eq_true, beq_iff_eq] at hc
     obtain ⟨h1, h2⟩ := hc
     obtain ⟨q1, -⟩ := chkAr_sound h2 hf he
     refine here hn hh hv rfl rfl ?_
     have := run_loadAgg (P := P) (off := off) (g := fun j => cel hd (fun _ => 0) j) h1 hT (fun j hj => by
      have e3 : ((l.drop off).take n)[j]? = (hd.map (At.i .i64))[j]? := by rw [e1]
      rw [List.getElem?_take_of_lt hj, List.getElem?_drop, List.getElem?_map] at e3
      have e4 : hd[j]? = some (hd[j]'(by omega)) := by simp [show j < hd.length by omega]
      rw [e4, Option.map_some] at e3
      simp [cellsB, e3, cel, e4, ren])
     simp [execOp, ho, q1, renS, ren, Instr.loadAt, Instr.sureAddr, this, cellsOf]
    ·cases hc
 ·exact hv.elim

theorem e_ldf {y : Ar} {n : Nat} (hc : chkQ P ρ o.op (.ldf y n) = true) (hf : FRel ρ σ a.tmps fr H.length) (hh : HRel ρ σ w H) (hv : vopE P ρ fr H (.ldf y n) K) (hn : Nx ρ σ H w o a K next) : o.wp P a w next Q := by
 simp only [vopE] at hv
 split at hv
 ·rename_i k off he
  obtain ⟨r, cs, fz, g, hk, hg, hv⟩ := hv
  obtain ⟨T, hT⟩ := blk_of hh hk
  simp only [chkQ] at hc
  split at hc
  ·rename_i t x ho
   simp only [Bool.and_eq_true, beq_iff_eq] at hc
   obtain ⟨h1, h2⟩ := hc
   obtain ⟨q1, -⟩ := chkAr_sound h2 hf he
   refine here hn hh hv rfl rfl ?_
   have := run_loadAgg (P := P) (off := off) (g := fun j => cel [] g j) h1 hT (fun j hj => by
    rw [cel_by (by simp)]
    exact hg j hj)
   simp [execOp, ho, q1, renS, ren, Instr.loadAt, Instr.sureAddr, this, cellsOf]
  ·cases hc
 ·exact hv.elim

theorem e_ld1 {y : Ar} (hc : chkQ P ρ o.op (.ld1 y) = true) (hf : FRel ρ σ a.tmps fr H.length) (hh : HRel ρ σ w H) (hv : vopE P ρ fr H (.ld1 y) K) (hn : Nx ρ σ H w o a K next) : o.wp P a w next Q := by
  simp only [vopE] at hv
  split at hv
  · rename_i k off he
    obtain ⟨B, v, hk, hcat, hv⟩ := hv
    obtain ⟨r, c⟩ := B
    cases c with
    | «by» hd N f =>
      simp only [cat] at hcat
      split at hcat
      · rename_i hlt
        split at hcat
        · rename_i z hz
          cases hcat
          refine s_ld1 (y := y) (K := K) hc hf hh ?_ hn
          simp only [vop, he, hk, blt_t hlt, hz]
          exact hv
        · rename_i hz
          cases hcat
          refine s_ld8 (y := y) (K := K) hc hf hh ?_ hn
          simp only [vop, he, hk]
          exact ⟨⟨List.getElem?_eq_none_iff.1 hz, hlt⟩, hv⟩
      · cases hcat
    | vr x =>
      simp only [cat] at hcat
      split at hcat
      · rename_i h0
        cases hcat; subst h0
        refine s_ld1 (y := y) (K := K) hc hf hh ?_ hn
        simp only [vop, he, hk]
        exact hv
      · cases hcat
    | rw l =>
      refine s_ld1 (y := y) (K := K) hc hf hh ?_ hn
      simp only [vop, he, hk]
      exact ⟨_, hcat, hv⟩
    | gs e l => cases hcat
    | fo cs fz =>
      simp only [cat] at hcat
      split at hcat
      · rename_i n hcs
        split at hcat
        · rename_i hb
          cases hcat
          simp only [chkQ] at hc
          split at hc
          · rename_i t x ho
            simp only [Bool.and_eq_true] at hc
            obtain ⟨e1, -⟩ := chkAr_sound hc.2 hf he
            obtain ⟨T, hT⟩ := blk_of hh hk
            refine here hn hh hv rfl rfl ?_
            have hrun := run_loadOne (P := P) (w := w) (t := t) (off := off) (v := .int .u8 n) hc.1 hT hcs
            have : renS ρ σ (.one (.u (byt n))) = .int .u8 n := by simp only [renS, ren]; rw [byt_toNat]; congr 1; omega
            rw [this]
            simp [execOp, ho, e1, renS, ren, Instr.loadAt, Instr.sureAddr, hrun]
          · cases hc
        · cases hcat
      · cases hcat
  · exact hv.elim

theorem eqBk_cells : ∀ {a b : Bk}, eqBk a b → cellsB ρ σ a = cellsB ρ σ b
  | .by hd n f, .by _ _ g, ⟨rfl, rfl, h⟩ => by
    simp only [cellsB, cellsOf]
    congr 1
    apply List.map_congr_left
    intro x hx
    rw [List.mem_range] at hx
    by_cases hl : hd.length ≤ x
    · rw [cel_by hl, cel_by hl, h x hl hx]
    · have e : hd[x]? = some (hd[x]'(by omega)) := by simp [show x < hd.length by omega]
      rw [cel_hd e, cel_hd e]
  | .vr _, _, h | .rw _, _, h | .gs _ _, _, h | .fo _ _, _, h => by cases h; rfl
  | .by _ _ _, .vr _, h | .by _ _ _, .rw _, h | .by _ _ _, .gs _ _, h | .by _ _ _, .fo _ _, h => by cases h
theorem eqBk_lt {m : Nat} : ∀ {a b : Bk}, eqBk a b → a.lt m = b.lt m
  | .by _ _ _, .by _ _ _, _ => rfl
  | .vr _, _, h | .rw _, _, h | .gs _ _, _, h | .fo _ _, _, h => by cases h; rfl
  | .by _ _ _, .vr _, h | .by _ _ _, .rw _, h | .by _ _ _, .gs _ _, h | .by _ _ _, .fo _ _, h => by cases h
theorem eqBk_frz : ∀ {a b : Bk}, eqBk a b → frz a = frz b
  | .by _ _ _, .by _ _ _, _ => rfl
  | .vr _, _, h | .rw _, _, h | .gs _ _, _, h | .fo _ _, _, h => by cases h; rfl
  | .by _ _ _, .vr _, h | .by _ _ _, .rw _, h | .by _ _ _, .gs _ _, h | .by _ _ _, .fo _ _, h => by cases h
theorem Sp_conv {σ' : Nat → Nat} {w' : World} {k : Nat} {c c' : Bk} (h : Sp ρ σ H w σ' (H.set k ⟨false, c⟩) w') (he : eqBk c c') (hk : k < H.length) : Sp ρ σ H w σ' (H.set k ⟨false, c'⟩) w' := by
 have hget : ∀ (j : Nat) (B : Blk), (H.set k ⟨false, c'⟩)[j]? = some B → ∃ A, (H.set k ⟨false, c⟩)[j]? = some A ∧ A.ro = B.ro ∧ (cellsB ρ σ' A.c = cellsB ρ σ' B.c ∧ frz A.c = frz B.c) ∧ A.c.lt H.length = B.c.lt H.length := by
  intro j B hB
  by_cases hj : j = k
  ·subst hj
   rw [List.getElem?_set_self hk] at hB
   cases hB
   exact ⟨⟨false, c⟩, by rw [List.getElem?_set_self hk], rfl, ⟨eqBk_cells he, eqBk_frz he⟩, eqBk_lt he⟩
  ·rw [List.getElem?_set_ne (Ne.symm hj)] at hB
   exact ⟨B, by rw [List.getElem?_set_ne (Ne.symm hj)]; exact hB, rfl, ⟨rfl, rfl⟩, rfl⟩
 refine ⟨⟨?_, ?_, ?_⟩, h.k, by simp, h.same, ?_, ?_⟩
 ·intro j B hB
  obtain ⟨A, h1, -, h3, -⟩ := hget j B hB
  obtain ⟨T, e⟩ := h.h.at_ j A h1
  exact ⟨T, by rw [e, h3.1, h3.2]⟩
 ·intro i j B hij hj hB hro
  obtain ⟨A, h1, h2, -, -⟩ := hget i B hB
  exact h.h.sep i j A hij (by simpa using hj) h1 (by rw [h2]; exact hro)
 ·intro j B hB
  obtain ⟨A, h1, -, -, h4⟩ := hget j B hB
  have := h.h.clo j A h1
  simp only [List.length_set] at this ⊢
  rw [← h4]; exact this
 ·intro j B B' e e'
  obtain ⟨A, h1, h2, -, -⟩ := hget j B' e'
  rw [← h2]; exact h.rof j B A e h1
 ·intro j h1 h2
  exact h.fresh j h1 (by simpa using h2)
theorem Nx.conv {k : Nat} {c c' : Bk} (hn : Nx ρ σ H w o a K next) (he : eqBk c c') (hk : k < H.length) (hK : K (.tup []) (H.set k ⟨false, c'⟩)) : Nx ρ σ H w o a (fun v H' => v = .tup [] ∧ H' = H.set k ⟨false, c⟩) next := by
 rintro v H' σ' w' ⟨rfl, rfl⟩ sp -
 exact hn (.tup []) _ σ' w' hK (Sp_conv sp he hk) rfl

theorem e_st1 {y u : Ar} (hc : chkQ P ρ o.op (.st1 y u) = true) (hf : FRel ρ σ a.tmps fr H.length) (hh : HRel ρ σ w H) (hv : vopE P ρ fr H (.st1 y u) K) (hn : Nx ρ σ H w o a K next) : o.wp P a w next Q := by
  simp only [vopE] at hv
  split at hv
  · rename_i k off b he1 he2
    obtain ⟨c, c1, c', hk, hput, heq, hv⟩ := hv
    replace hn := hn.conv heq (List.getElem?_eq_some_iff.1 hk).1 hv
    replace hv : (fun (v : Sv) (H' : List Blk) => v = .tup [] ∧ H' = H.set k ⟨false, c1⟩) (.tup []) (H.set k ⟨false, c1⟩) := ⟨rfl, rfl⟩
    cases c with
    | «by» hd N f =>
      simp only [cput] at hput
      split at hput
      · rename_i z
        split at hput
        · rename_i hb
          cases hput
          refine s_st1 (y := y) (u := u) (K := fun (v : Sv) (H' : List Blk) => v = .tup [] ∧ H' = _) hc hf hh ?_ hn
          simp only [vop, he1, he2, hk, blt_t hb.1, blt_t hb.2, Bool.and_self]
          first | exact hv | exact ⟨trivial, trivial⟩
        · cases hput
      · rename_i v
        split at hput
        · rename_i hb
          cases hput
          refine s_st8 (y := y) (u := u) (K := fun (v : Sv) (H' : List Blk) => v = .tup [] ∧ H' = _) hc hf hh ?_ hn
          simp only [vop, he1, he2, hk]
          first | exact ⟨hb, hv⟩ | exact ⟨hb, trivial, trivial⟩
        · cases hput
      · cases hput
    | vr x =>
      simp only [cput] at hput
      split at hput
      · rename_i hb
        cases hput
        refine s_st1 (y := y) (u := u) (K := fun (v : Sv) (H' : List Blk) => v = .tup [] ∧ H' = _) hc hf hh ?_ hn
        simp only [vop, he1, he2, hk, hb.1, hb.2]
        first | exact hv | exact ⟨trivial, trivial⟩
      · cases hput
    | rw l =>
      simp only [cput] at hput
      split at hput
      · rename_i hb
        cases hput
        refine s_st1 (y := y) (u := u) (K := fun (v : Sv) (H' : List Blk) => v = .tup [] ∧ H' = _) hc hf hh ?_ hn
        simp only [vop, he1, he2, hk]
        first | exact ⟨hb, hv⟩ | exact ⟨hb, trivial, trivial⟩
      · cases hput
    | gs e l => cases hput
    | fo cs fz => cases hput
  · exact hv.elim

theorem renC_one (c : C1) : (renC c).oneCell' = true := by cases c <;> rfl

theorem e_sta {y u : Ar} {n : Nat} (hc : chkQ P ρ o.op (.sta y u n) = true) (hf : FRel ρ σ a.tmps fr H.length) (hh : HRel ρ σ w H) (hv : vopE P ρ fr H (.sta y u n) K) (hn : Nx ρ σ H w o a K next) : o.wp P a w next Q := by
 simp only [vopE] at hv
 split at hv
 ·rename_i k off b he1 he2
  obtain ⟨c, c1, c', hk, hput, heq, hv⟩ := hv
  replace hn := hn.conv heq (List.getElem?_eq_some_iff.1 hk).1 hv
  replace hv : (fun (v : Sv) (H' : List Blk) => v = .tup [] ∧ H' = H.set k ⟨false, c1⟩) (.tup []) (H.set k ⟨false, c1⟩) := ⟨rfl, rfl⟩
  clear heq
  unfold cputs at hput
  split at hput
  ·rename_i hd N f off m g
   split at hput
   ·rename_i hb
    cases hput
    refine s_sta (y := y) (u := u) (n := n) (K := fun (v : Sv) (H' : List Blk) => v = .tup [] ∧ H' = _) hc hf hh ?_ hn
    simp only [vop, he1, he2, hk]
    first | exact ⟨hb, hv⟩ | exact ⟨hb, trivial, trivial⟩
   ·cases hput
  ·rename_i hd N f off z zs m g
   split at hput
   ·rename_i hb
    obtain ⟨rfl, rfl, rfl, h4⟩ := hb
    cases hput
    refine s_sta (y := y) (u := u) (n := m) (K := fun (v : Sv) (H' : List Blk) => v = .tup [] ∧ H' = _) hc hf hh ?_ hn
    simp only [vop, he1, he2, hk]
    rw [h4]
    simp only [Nat.beq_refl, Bool.and_self]
    first | exact hv | exact ⟨trivial, trivial⟩
   ·cases hput
  ·rename_i l off q
   split at hput
   ·rename_i hb
    obtain ⟨rfl, rfl, h3⟩ := hb
    cases hput
    obtain ⟨T, hT⟩ := blk_of hh hk
    simp only [chkQ] at hc
    split at hc
    ·rename_i t x v ho
     simp only [Bool.and_eq_true, beq_iff_eq] at hc
     obtain ⟨⟨h0, h1⟩, h2⟩ := hc
     obtain ⟨e1, -⟩ := chkAr_sound h1 hf he1
     obtain ⟨e2, -⟩ := chkAr_sound h2 hf he2
     have hlt : (Bk.rw (q.map C1.at)).lt H.length = true := by
      simp only [Bk.lt, List.all_eq_true, List.mem_map, Bool.and_eq_true]
      rintro b ⟨c, -, rfl⟩
      cases c <;> exact ⟨rfl, rfl⟩
     refine store_at hn hh hk (c := .rw (q.map C1.at)) hlt hv ho e1 e2 ?_
     have := run_storeAll (P := P) (off := 0) (v := .agg (q.map renC).toArray) h0 (by simp [Value.cells]) hT (by simp [cellsB, h3]) (by
      intro u hu
      simp only [Value.cells, List.mem_map] at hu
      obtain ⟨c, -, rfl⟩ := hu
      exact renC_one c)
     simp only [renS, ren]
     rw [this]
     congr 2
     simp only [cellsB, List.take_zero, List.nil_append, Value.cells, Nat.zero_add]
     rw [List.drop_of_length_le (by simp [h3]), List.append_nil, List.map_map]
     congr 1
     exact List.map_congr_left fun c _ => (ren_at ρ σ c).symm
    ·cases hc
   ·cases hput
  ·cases hput
 ·exact hv.elim

theorem enter_wpE {f : Nat} {l : List At} (hn : Nx ρ σ H w o a K next) (hh : HRel ρ σ w H) (hv : ∃ R, CallR P ρ f l H R ∧ ∀ v H', R v H' → K v H')
  (hrun : (execOp a.eval o).run P w = .ok (.enter (ρ f) (l.map (ren ρ σ)).toArray) w) : o.wp P a w next Q := by
 obtain ⟨R, hR, hv⟩ := hv
 unfold Oper.wp
 rw [hrun]
 refine (hR σ w hh).mono ?_
 rintro e w' ⟨v, H', σ', hQ, rfl, sp, hl⟩
 exact hn v H' σ' w' (hv v H' hQ) sp hl

theorem e_call {f' : Nat} {as' : List Ar} (hc : chkQ P ρ o.op (.call f' as') = true) (hf : FRel ρ σ a.tmps fr H.length) (hh : HRel ρ σ w H) (hv : vopE P ρ fr H (.call f' as') K) (hn : Nx ρ σ H w o a K next) : o.wp P a w next Q := by
 simp only [vopE] at hv
 split at hv
 ·rename_i l hl
  simp only [chkQ, chkOp] at hc
  split at hc
  ·rename_i c ho
   simp only [Bool.and_eq_true] at hc
   obtain ⟨h1, h2⟩ := hc
   split at h1
   ·rename_i f hcal
    simp only [Bool.and_eq_true, beq_iff_eq] at h1
    obtain ⟨rfl, h3⟩ := h1
    obtain ⟨e1, -⟩ := atoms_sound (a := a) h2 hf hl
    refine enter_wpE hn hh hv ?_
    have r1 : Array.map a.eval c.args = (l.map (ren ρ σ)).toArray := by apply Array.ext'; rw [Array.toList_map, e1]
    simp [execOp, ho, resolve, hcal, Act.eval, Deferred.ofValue, invoke]
    have r1' : Array.map (fun x => a.eval x) c.args = (l.map (ren ρ σ)).toArray := r1
    first
     | (rw [r1, fnOk_enter h3])
     | (rw [r1', fnOk_enter h3])
   ·cases h1
  ·cases hc
 ·exact hv.elim

theorem mvp_fix0 {T : Nat → Nat} {m : Nat} (h : ∀ k, k < m → T k = k) : ∀ {l : List (Nat × Nat)}, l.all (fun p => decide (p.1 < m)) = true → l.map (mvp T) = l
  | [], _ => rfl
  | p :: r, e => by
    simp only [List.all_cons, Bool.and_eq_true, decide_eq_true_eq] at e
    rw [List.map_cons, mvp_fix0 h (l := r) e.2]
    simp [mvp, h _ e.1]
theorem mva_fix0 {T : Nat → Nat} {m : Nat} (h : ∀ k, k < m → T k = k) : ∀ {a : At}, a.lt m = true → mva T a = a
  | .pt k off, e => by simp only [At.lt, decide_eq_true_eq] at e; simp [mva, h k e]
  | .sl k off l c, e => by simp only [At.lt, decide_eq_true_eq] at e; simp [mva, h k e]
  | .fn f a b, e => by
    simp only [At.lt, Bool.and_eq_true] at e
    simp only [mva]
    rw [mvp_fix0 h e.1, mvp_fix0 h e.2]
  | .i _ _, _ | .u _, _ | .b _, _ | .ag _ _ _, _ | .np, _ | .sn, _ | .ac _, _ => rfl

theorem e_calp {f' : Nat} {as' : List Ar} (hc : chkQ P ρ o.op (.calp f' as') = true) (hf : FRel ρ σ a.tmps fr H.length) (hh : HRel ρ σ w H) (hv : vopE P ρ fr H (.calp f' as') K) (hn : Nx ρ σ H w o a K next) : o.wp P a w next Q := by
  simp only [vopE] at hv
  split at hv
  · rename_i l hl
    obtain ⟨v, hv1, hlt, hv⟩ := hv
    simp only [Bool.and_eq_true, List.all_eq_true] at hlt
    have hfix : ∀ T : Nat → Nat, ∀ a : At, a.lt 0 = true → mva T a = a := fun T a h => mva_fix0 (m := 0) (fun k hk => absurd hk (Nat.not_lt_zero k)) h
    have hl1 : l = l.map (mva (tau [] H.length)) := by
      have : ∀ q : List At, (∀ a ∈ q, a.lt 0 = true) → q = q.map (mva (tau [] H.length)) := by
        intro q
        induction q with
        | nil => intro _; rfl
        | cons x r ih => intro h; rw [List.map_cons, hfix _ x (h x (by simp)), ← ih fun a ha => h a (by simp [ha])]
      exact this l hlt.1
    have hv2 : mvs (tau [] H.length) v = v := by
      cases v with
      | one a => simp only [mvs]; rw [hfix _ a hlt.2]
      | tup q | rc q =>
        simp only [mvs]
        have := hlt.2
        simp only [Sv.lt, List.all_eq_true] at this
        congr 1
        exact (List.map_congr_left fun a ha => hfix _ a (this a ha)).trans (List.map_id _)
    refine s_call (f' := f') (as' := as') (K := K) hc hf hh ?_ hn
    simp only [vop, hl]
    refine ⟨H.length, [], l, [], v, [], H, rfl, hv1, hl1, trivial, rfl, by simp [back], ?_⟩
    rw [hv2]
    exact hv
  · exact hv.elim

theorem e_calv {y : Ar} {as' : List Ar} (hfn : ∀ f, fnOk P (ρ f) = true) (hc : chkQ P ρ o.op (.calv y as') = true) (hf : FRel ρ σ a.tmps fr H.length) (hh : HRel ρ σ w H) (hv : vopE P ρ fr H (.calv y as') K) (hn : Nx ρ σ H w o a K next) : o.wp P a w next Q := by
 simp only [vopE] at hv
 split at hv
 ·rename_i f first caps l he hl
  simp only [chkQ, chkOp] at hc
  split at hc
  ·rename_i c ho
   simp only [Bool.and_eq_true] at hc
   obtain ⟨h1, h2⟩ := hc
   split at h1
   ·rename_i t hcal
    obtain ⟨e1, -⟩ := atoms_sound (a := a) h2 hf hl
    obtain ⟨e0, -⟩ := chkAr_sound h1 hf he
    refine enter_wpE hn hh hv ?_
    have r1 : Array.map a.eval c.args = (l.map (ren ρ σ)).toArray := by apply Array.ext'; rw [Array.toList_map, e1]
    have r2 : ((List.map (fun p : Nat × Nat => At.pt p.1 p.2) first ++ l ++ List.map (fun p : Nat × Nat => At.pt p.1 p.2) caps).map (ren ρ σ)).toArray = (first.map (pv σ)).toArray ++ (l.map (ren ρ σ)).toArray ++ (caps.map (pv σ)).toArray := by
     have z : ∀ q : List (Nat × Nat), List.map (ren ρ σ) (List.map (fun p : Nat × Nat => At.pt p.1 p.2) q) = q.map (pv σ) := by
      intro q; rw [List.map_map]; exact List.map_congr_left fun p _ => rfl
     simp [z]
    rw [r2]
    have r1' : Array.map (fun x => a.eval x) c.args = (l.map (ren ρ σ)).toArray := r1
    simp only [execOp, ho, resolve, hcal, e0, renS, ren, Deferred.ofValue, Sem.run_bind, Sem.run_pure, Result.andThen_ok, invoke, r1]
    rw [fnOk_enter (hfn f)]
   ·cases h1
  ·cases hc
 ·exact hv.elim

/-! ### slices -/
theorem chkOpt_sound {lo : Option Operand} {lo' : Option Ar} {d : Int} {z : Int} (hc : chkOpt ρ lo lo' = true) (hf : FRel ρ σ a.tmps fr H.length) (he : evo fr d lo' = some (.one (.i .i64 z))) :
  (lo = none ∧ z = d) ∨ ∃ u, lo = some u ∧ a.eval u = .int .i64 z := by
 unfold chkOpt at hc
 split at hc
 ·simp only [evo, Option.some.injEq, Sv.one.injEq, At.i.injEq, true_and] at he
  exact .inl ⟨rfl, he.symm⟩
 ·obtain ⟨e1, -⟩ := chkAr_sound hc hf he
  exact .inr ⟨_, rfl, e1⟩
 ·cases hc

theorem run_bounds {b : Bool} {lo hi : Option Operand} {lo' hi' : Option Ar} {x y len cap : Nat} (c1 : chkOpt ρ lo lo' = true) (c2 : chkOpt ρ hi hi' = true) (hf : FRel ρ σ a.tmps fr H.length)
  (hl : evo fr 0 lo' = some (.one (.i .i64 (x : Int)))) (hr : evo fr (len : Int) hi' = some (.one (.i .i64 (y : Int)))) (h1 : x ≤ y) (h2 : y ≤ cap) :
  (Instr.sliceBounds b len cap (lo.map a.eval) (hi.map a.eval) none).run P w = .ok (x, y, cap) w := by
 unfold Instr.sliceBounds
 rcases chkOpt_sound c1 hf hl with ⟨rfl, e1⟩ | ⟨u, rfl, e1⟩ <;> rcases chkOpt_sound c2 hf hr with ⟨rfl, e2⟩ | ⟨v, rfl, e2⟩
 ·have : x = 0 := by omega
  have : y = len := by omega
  subst_vars
  simp
 ·have : x = 0 := by omega
  subst_vars
  cases b <;> simp [Instr.sliceBound, e2, asIntOf, h2, show (0 : Int) ≤ (y : Int) by omega]
 ·have : y = len := by omega
  subst_vars
  simp [Instr.sliceBound, e1, asIntOf, h1, show (0 : Int) ≤ (x : Int) by omega]
 ·cases b <;> simp [Instr.sliceBound, e1, e2, asIntOf, h2, show (0 : Int) ≤ (y : Int) by omega, show (0 : Int) ≤ (x : Int) by omega, show (x : Int) ≤ max (y : Int) 0 by omega, h1]

theorem e_sla {y : Ar} {lo' hi' : Option Ar} {n esz : Nat} (hc : chkQ P ρ o.op (.sla y lo' hi' n esz) = true) (hf : FRel ρ σ a.tmps fr H.length) (hh : HRel ρ σ w H) (hv : vopE P ρ fr H (.sla y lo' hi' n esz) K) (hn : Nx ρ σ H w o a K next) : o.wp P a w next Q := by
 simp only [vopE] at hv
 split at hv
 ·rename_i k off he
  split at hv
  ·rename_i l h hl hr
   obtain ⟨x, z, rfl, rfl, ⟨b1, b2, b3⟩, hv⟩ := hv
   simp only [chkQ] at hc
   split at hc
   ·rename_i t xx lo hi mx ho
    simp only [Bool.and_eq_true] at hc
    obtain ⟨⟨⟨⟨c1, c2⟩, c3⟩, c4⟩, c5⟩ := hc
    have hmx : mx = none := by simpa using c2
    subst hmx
    obtain ⟨e1, l1⟩ := chkAr_sound c1 hf he
    split at c5
    ·rename_i len e hu
     simp only [Bool.and_eq_true, beq_iff_eq] at c5
     obtain ⟨rfl, c5⟩ := c5
     refine here hn hh hv (v := .one (.sl k (off + x * esz) (z - x) (len - x))) l1 rfl ?_
     have hb := run_bounds (P := P) (w := w) (b := false) c3 c4 hf hl hr b1 b2
     have hne : ¬ len = x := by omega
     simp [execOp, ho, e1, renS, ren, Instr.sliceAt, Sem.run_bind, run_underlying' hu, hb, run_sizeOf' c5, hne, add_mk, Instr.sureAddr]
    ·cases c5
   ·cases hc
  ·exact hv.elim
 ·exact hv.elim

theorem e_slc {y : Ar} {lo' hi' : Option Ar} {esz : Nat} (hc : chkQ P ρ o.op (.slc y lo' hi' esz) = true) (hf : FRel ρ σ a.tmps fr H.length) (hh : HRel ρ σ w H) (hv : vopE P ρ fr H (.slc y lo' hi' esz) K) (hn : Nx ρ σ H w o a K next) : o.wp P a w next Q := by
 simp only [chkQ] at hc
 split at hc
 ·rename_i t xx lo hi mx ho
  simp only [Bool.and_eq_true] at hc
  obtain ⟨⟨⟨⟨c1, c2⟩, c3⟩, c4⟩, c5⟩ := hc
  have hmx : mx = none := by simpa using c2
  subst hmx
  split at c5
  ·rename_i e hu
   simp only [beq_iff_eq] at c5
   simp only [vopE] at hv
   split at hv
   ·rename_i k off len cap he
    split at hv
    ·rename_i l h hl hr
     obtain ⟨x, z, rfl, rfl, ⟨b1, b2⟩, hv⟩ := hv
     obtain ⟨e1, l1⟩ := chkAr_sound c1 hf he
     refine here hn hh hv (v := .one (.sl k (if cap = x then off else off + x * esz) (z - x) (cap - x))) l1 rfl ?_
     have hb := run_bounds (P := P) (w := w) (b := true) (cap := cap) c3 c4 hf hl hr b1 b2
     simp only [execOp, ho, e1, renS, ren, Instr.sliceAt, Instr.slice, Option.map_none, Sem.run_bind, run_underlying' hu, hb, run_sizeOf' c5, Result.andThen_ok, Sem.run_pure, Option.map_some, add_mk]
     split <;> rfl
    ·exact hv.elim
   ·rename_i he
    split at hv
    ·rename_i l h hl hr
     obtain ⟨⟨rfl, rfl⟩, hv⟩ := hv
     obtain ⟨e1, l1⟩ := chkAr_sound c1 hf he
     refine here hn hh hv (v := .one .sn) rfl rfl ?_
     have hb := run_bounds (P := P) (w := w) (b := true) (len := 0) (cap := 0) (x := 0) (y := 0) c3 c4 hf hl hr (Nat.le_refl _) (Nat.le_refl _)
     simp [execOp, ho, e1, renS, ren, Instr.sliceAt, Instr.slice, Sem.run_bind, run_underlying' hu, hb, run_sizeOf' c5]
    ·exact hv.elim
   ·exact hv.elim
  ·cases c5
 ·cases hc

theorem e_sap {y : Ar} {n : Nat} (hc : chkQ P ρ o.op (.sap y n) = true) (hf : FRel ρ σ a.tmps fr H.length) (hh : HRel ρ σ w H) (hv : vopE P ρ fr H (.sap y n) K) (hn : Nx ρ σ H w o a K next) : o.wp P a w next Q := by
 simp only [vopE] at hv
 split at hv
 ·rename_i k off len cap he
  obtain ⟨hle, hv⟩ := hv
  simp only [chkQ] at hc
  split at hc
  ·rename_i t x ho
   simp only [Bool.and_eq_true] at hc
   obtain ⟨h1, h2⟩ := hc
   obtain ⟨e1, l1⟩ := chkAr_sound h1 hf he
   split at h2
   ·rename_i l e hu
    simp only [beq_iff_eq] at h2
    subst h2
    refine here hn hh hv (v := .one (.pt k off)) l1 rfl ?_
    simp [execOp, ho, e1, renS, ren, Instr.arrayAt, Sem.run_bind, run_underlying' hu, show ¬ len < l by omega]
   ·cases h2
  ·cases hc
 ·exact hv.elim

/-! ### values of words, truth values and empty slices -/
theorem zeroC_sound {t : TypeId} {z : List C1} (h : zeroC P t z = true) : (zeroValue t).run P w = .ok (.agg (z.map renC).toArray) w := by
  unfold zeroC at h
  split at h
  · rename_i cs hv
    obtain ⟨i, hi, hz⟩ := Option.bind_eq_some_iff.1 hv
    simp only [Bool.and_eq_true, beq_iff_eq] at h
    obtain ⟨h1, h2⟩ := h
    have : cs = (z.map renC).toArray := by
      apply Array.ext'
      show cs.toList = z.map renC
      generalize cs.toList = l at h1 h2
      clear hv hz hi
      induction l generalizing z with
      | nil => cases z with
        | nil => rfl
        | cons c r => simp at h1
      | cons v l ih =>
        cases z with
        | nil => simp at h1
        | cons c r =>
          simp only [List.zip_cons_cons, List.all_cons, Bool.and_eq_true] at h2
          simp only [List.length_cons, Nat.add_right_cancel_iff] at h1
          rw [ih h1 h2.2, List.map_cons]
          congr 1
          have h3 := h2.1
          split at h3
          · simp only [Bool.and_eq_true, beq_iff_eq] at h3; obtain ⟨rfl, rfl⟩ := h3; rfl
          · simp only [beq_iff_eq] at h3; subst h3; rfl
          · rfl
          · cases h3
    subst this
    simp [zeroValue, typeInfo, hi, hz]
  · cases h

theorem rwC (z : List C1) : cellsB ρ σ (.rw (z.map C1.at)) = (z.map renC).toArray := by
 simp only [cellsB, List.map_map]
 congr 1
 exact List.map_congr_left fun c _ => ren_at ρ σ c
theorem rwC_lt (z : List C1) (m : Nat) : (Bk.rw (z.map C1.at)).lt m = true := by
 simp only [Bk.lt, List.all_eq_true, List.mem_map, Bool.and_eq_true]
 rintro b ⟨c, -, rfl⟩
 cases c <;> exact ⟨rfl, rfl⟩

theorem e_alc {z : List C1} (hc : chkQ P ρ o.op (.alc z) = true) (hh : HRel ρ σ w H) (hv : vopE P ρ fr H (.alc z) K) (hn : Nx ρ σ H w o a K next) : o.wp P a w next Q := by
 simp only [vopE] at hv
 simp only [chkQ] at hc
 split at hc
 ·rename_i t ho
  obtain ⟨_, rfl, hv⟩ := hv
  refine new_at (T := t) (c := .rw (z.map C1.at)) hn hh (rwC_lt z _) (v := .one (.pt H.length 0)) (by simp [Sv.lt, At.lt]) hv (x := .pointer (some ⟨w.heap.size, 0, none⟩)) (by simp [renS, ren, setAt_same]) ?_
  have := rwC (ρ := ρ) (σ := σ) z
  simp [execOp, ho, Instr.alloc, zeroC_sound (w := w) hc, newVar, newRow, this, Value.cells]
 ·cases hc

theorem e_bxc {y : Ar} (hc : chkQ P ρ o.op (.bxc y) = true) (hf : FRel ρ σ a.tmps fr H.length) (hh : HRel ρ σ w H) (hv : vopE P ρ fr H (.bxc y) K) (hn : Nx ρ σ H w o a K next) : o.wp P a w next Q := by
 simp only [chkQ] at hc
 split at hc
 ·rename_i t x ho
  simp only [vopE] at hv
  split at hv
  ·rename_i z he
   obtain ⟨e1, -⟩ := chkAr_sound hc hf he
   obtain ⟨_, rfl, hv⟩ := hv
   refine new_at (T := t) (c := .rw (z.map C1.at)) hn hh (rwC_lt z _) (v := .one (.pt H.length 0)) (by simp [Sv.lt, At.lt]) hv (x := .pointer (some ⟨w.heap.size, 0, none⟩)) (by simp [renS, ren, setAt_same]) ?_
   have := rwC (ρ := ρ) (σ := σ) z
   simp [execOp, ho, Instr.box, newVar, newRow, e1, this, renS, ren, Value.cells]
  ·exact hv.elim
 ·cases hc

theorem layC_fill {place : Nat → Option (Nat × Nat)} {K : Sv → Prop} : ∀ {xs : List (Nat × Operand)} {ps : List (Nat × Nat × Ar)} {l : List C1}, chkPs P ρ place xs ps = true → FRel ρ σ a.tmps fr H.length → layC fr K ps l →
    ∃ l', Instr.fill place (l.map renC).toArray (xs.map fun p => (p.1, a.eval p.2)) = some (l'.map renC).toArray ∧ K (.one (.ac l'))
  | [], [], l, _, _, h => ⟨l, rfl, h⟩
  | (i, x) :: xs, (off, sz, y) :: ps, l, hc, hf, h => by
    simp only [chkPs, Bool.and_eq_true] at hc
    obtain ⟨⟨h1, h2⟩, h3⟩ := hc
    split at h1
    · rename_i o' s hp
      simp only [Bool.and_eq_true, beq_iff_eq] at h1
      obtain ⟨rfl, rfl⟩ := h1
      simp only [layC] at h
      split at h
      · rename_i z he
        cases hb : (Nat.blt o' l.length && Nat.beq s 1) with
        | false => rw [hb] at h; exact h.elim
        | true =>
        rw [hb] at h
        simp only [Bool.and_eq_true] at hb
        have b1 : o' < l.length := Nat.le_of_ble_eq_true hb.1
        obtain rfl := Nat.eq_of_beq_eq_true hb.2
        obtain ⟨e1, -⟩ := chkAr_sound h2 hf he
        obtain ⟨l', q1, q2⟩ := layC_fill (xs := xs) h3 hf h
        refine ⟨l', ?_, q2⟩
        have hsz : (Value.int .i64 z).cells.size = 1 := rfl
        simp only [List.map_cons, Instr.fill, hp, e1, renS, ren, hsz]
        rw [if_neg (by simp; omega)]
        rw [← q1]
        congr 1
        apply Array.ext'
        simp [renC, Value.cells]
      · rename_i hd n g he
        cases hb : (Nat.ble (o' + n) l.length && Nat.beq s n && Nat.beq hd.length n) with
        | false => rw [hb] at h; exact h.elim
        | true =>
        rw [hb] at h
        simp only [Bool.and_eq_true] at hb
        have b1 : o' + n ≤ l.length := Nat.le_of_ble_eq_true hb.1.1
        obtain rfl := Nat.eq_of_beq_eq_true hb.1.2
        have b3 := Nat.eq_of_beq_eq_true hb.2
        obtain ⟨e1, -⟩ := chkAr_sound h2 hf he
        obtain ⟨l', q1, q2⟩ := layC_fill (xs := xs) h3 hf h
        refine ⟨l', ?_, q2⟩
        have hsz : (Value.agg (cellsOf hd s g)).cells.size = s := cellsOf_size _ _ _
        simp only [List.map_cons, Instr.fill, hp, e1, renS, ren, hsz]
        rw [if_neg (by simp; omega)]
        rw [← q1]
        congr 1
        rw [fold_zip]
        simp only [Value.cells]
        apply Array.ext_getElem?
        intro u
        rw [fold_get o' _ 0 _ u (by simp [cellsOf_size]; omega)]
        simp only [Nat.add_zero, Array.length_toList, cellsOf_size, List.getElem?_toArray, Array.getElem?_toList]
        by_cases q : o' ≤ u ∧ u < o' + s
        · rw [if_pos q, cellsOf_get _ _ _ _ (by omega)]
          have e4 : hd[u - o']? = some (hd[u - o']'(by omega)) := by simp [show u - o' < hd.length by omega]
          rw [List.getElem?_map, List.append_assoc, List.getElem?_append_right (by simp; omega), List.getElem?_append_left (by simp; omega)]
          simp only [List.length_take, Nat.min_eq_left (show o' ≤ l.length by omega), List.getElem?_map, e4, Option.map_some, renC]
          rw [cel_hd e4]
        · rw [if_neg q, List.getElem?_map, List.getElem?_map]
          by_cases q2 : u < o'
          · rw [List.append_assoc, List.getElem?_append_left (by simp; omega), List.getElem?_take_of_lt q2]
          · rw [List.getElem?_append_right (by simp; omega), List.getElem?_drop]
            congr 2; simp; omega
      · exact h.elim
    · cases h1
  | [], _ :: _, _, hc, _, _ => by simp [chkPs] at hc
  | _ :: _, [], _, hc, _, _ => by simp [chkPs] at hc
end
end Hf
/- The second layer, part 2b: numbers without sign, least and greatest, records with slices, values of structs held against each other, a struct's field. -/
namespace Hf
open Go
section
variable {P : Program} {ρ : Nat → FuncId} {σ : Nat → Nat} {H : List Blk} {w : World} {o : Oper} {a : Act} {fr : List (Nat × Sv)} {K : Sv → List Blk → Prop}
variable {next : Act → World → Prop} {Q : Exit → Act → World → Prop}
theorem run_u64 {op : BinOp} {t : TypeId} {m n z : Int} (h : uval op m n = some z) : (binOp op t (.int .u64 m) (.int .u64 n)).run P w = .ok (.int .u64 z) w := by
 unfold uval at h
 split at h
 ·cases h; rfl
 ·cases h; rfl
 ·cases h; rfl
 ·split at h
  ·cases h
  ·rename_i hn
   cases h
   show (Op.shift .shr .u64 m .u64 n).run P w = _
   unfold Op.shift
   rw [if_neg hn]
   rfl
 ·cases h

theorem e_bnu {op' : BinOp} {x' y' : Ar} (hc : chkQ P ρ o.op (.bnu op' x' y') = true) (hf : FRel ρ σ a.tmps fr H.length) (hh : HRel ρ σ w H) (hv : vopE P ρ fr H (.bnu op' x' y') K) (hn : Nx ρ σ H w o a K next) : o.wp P a w next Q := by
 simp only [chkQ] at hc
 split at hc
 ·rename_i op t x y yt ho
  simp only [Bool.and_eq_true, decide_eq_true_eq] at hc
  obtain ⟨⟨rfl, h1⟩, h2⟩ := hc
  simp only [vopE] at hv
  split at hv
  ·rename_i m n hx hy
   obtain ⟨e1, -⟩ := chkAr_sound h1 hf hx
   obtain ⟨e2, -⟩ := chkAr_sound h2 hf hy
   obtain ⟨z, hz, hv⟩ := hv
   refine here hn hh hv rfl rfl ?_
   simp [execOp, ho, e1, e2, renS, ren, eqGuard_int, run_u64 hz]
  ·exact hv.elim
 ·cases hc

theorem e_cvu {y : Ar} (hc : chkQ P ρ o.op (.cvu y) = true) (hf : FRel ρ σ a.tmps fr H.length) (hh : HRel ρ σ w H) (hv : vopE P ρ fr H (.cvu y) K) (hn : Nx ρ σ H w o a K next) : o.wp P a w next Q := by
 simp only [chkQ] at hc
 split at hc
 ·rename_i s d x ho
  simp only [Bool.and_eq_true, beq_iff_eq] at hc
  obtain ⟨⟨h1, h2⟩, h3⟩ := hc
  have hs : ∃ ks, P.underlying s = some (.int ks) := by
   unfold intT at h1
   split at h1
   ·rename_i ks e; exact ⟨ks, e⟩
   ·cases h1
  have hd : P.underlying d = some (.int .u64) := by
   unfold intT at h2
   split at h2
   ·rename_i ks e; cases h2; exact e
   ·cases h2
  obtain ⟨ks, hs⟩ := hs
  have hrun : ∀ kk n, (convert s d (.int kk n)).run P w = .ok (.int .u64 (IntKind.u64.wrap n)) w := by
   intro kk n
   unfold convert
   simp [Sem.run_bind, run_underlying' hs, run_underlying' hd, Conv.intToInt]
  simp only [vopE] at hv
  split at hv
  ·rename_i kk n he
   obtain ⟨e1, -⟩ := chkAr_sound h3 hf he
   obtain ⟨_, rfl, hv⟩ := hv
   refine here hn hh hv rfl rfl ?_
   simp [execOp, ho, e1, renS, ren, hrun]
  ·rename_i c he
   obtain ⟨e1, -⟩ := chkAr_sound h3 hf he
   have hle := toNat_le c
   refine here hn hh hv rfl rfl ?_
   have : IntKind.u64.wrap (c.toNat : Int) = (c.toNat : Int) := by simp [IntKind.wrap, IntKind.bits, IntKind.signed]; omega
   simp [execOp, ho, e1, renS, ren, hrun, this]
  ·exact hv.elim
 ·cases hc

theorem e_mxm {mn : Bool} {x' y' : Ar} (hc : chkQ P ρ o.op (.mxm mn x' y') = true) (hf : FRel ρ σ a.tmps fr H.length) (hh : HRel ρ σ w H) (hv : vopE P ρ fr H (.mxm mn x' y') K) (hn : Nx ρ σ H w o a K next) : o.wp P a w next Q := by
 simp only [chkQ] at hc
 split at hc
 ·rename_i c ho
  simp only [Bool.and_eq_true] at hc
  obtain ⟨h1, h2⟩ := hc
  split at h2
  ·rename_i x y hx
   simp only [Bool.and_eq_true] at h2
   have hargs : c.args = #[x, y] := by rw [← Array.toList_inj]; simpa using hx
   simp only [vopE] at hv
   split at hv
   ·rename_i m n hex hey
    obtain ⟨e1, -⟩ := chkAr_sound h2.1 hf hex
    obtain ⟨e2, -⟩ := chkAr_sound h2.2 hf hey
    obtain ⟨_, rfl, hv⟩ := hv
    refine here hn hh hv rfl rfl ?_
    split at h1
    ·rename_i hcal
     obtain rfl : mn = false := by simpa using h1
     simp [execOp, ho, resolve, hcal, hargs, invoke, builtin, Builtin.max_, Builtin.max2, e1, e2, renS, ren, mxv]
    ·rename_i hcal
     subst h1
     simp [execOp, ho, resolve, hcal, hargs, invoke, builtin, Builtin.min_, Builtin.min2, e1, e2, renS, ren, mxv]
    ·cases h1
   ·exact hv.elim
  ·cases h2
 ·cases hc

theorem zeroA_sound {t : TypeId} {z : List At} (h : zeroA P t z = true) : (zeroValue t).run P w = .ok (.agg (z.map (ren ρ σ)).toArray) w ∧ z.all At.cell1 = true ∧ ∀ m, z.all (·.lt m) = true := by
  unfold zeroA at h
  split at h
  · rename_i cs hv
    obtain ⟨i, hi, hz⟩ := Option.bind_eq_some_iff.1 hv
    simp only [Bool.and_eq_true, beq_iff_eq] at h
    obtain ⟨h1, h2⟩ := h
    have : cs.toList = z.map (ren ρ σ) ∧ z.all At.cell1 = true ∧ ∀ m, z.all (·.lt m) = true := by
      generalize cs.toList = l at h1 h2
      clear hv hz hi
      induction l generalizing z with
      | nil => cases z with
        | nil => exact ⟨rfl, rfl, fun _ => rfl⟩
        | cons c r => simp at h1
      | cons v l ih =>
        cases z with
        | nil => simp at h1
        | cons c r =>
          simp only [List.zip_cons_cons, List.all_cons, Bool.and_eq_true] at h2
          simp only [List.length_cons, Nat.add_right_cancel_iff] at h1
          obtain ⟨i1, i2, i3⟩ := ih h1 h2.2
          obtain ⟨j1, j2⟩ := isVal_sound (ρ := ρ) (σ := σ) h2.1.1
          refine ⟨by rw [i1, j1]; rfl, by simp only [List.all_cons, Bool.and_eq_true]; exact ⟨h2.1.2, i2⟩, fun m => by simp only [List.all_cons, Bool.and_eq_true]; exact ⟨j2 m, i3 m⟩⟩
    refine ⟨?_, this.2⟩
    have e : cs = (z.map (ren ρ σ)).toArray := by apply Array.ext'; exact this.1
    subst e
    simp [zeroValue, typeInfo, hi, hz]
  · cases h

theorem layR_fill {place : Nat → Option (Nat × Nat)} {K : Sv → Prop} : ∀ {xs : List (Nat × Operand)} {ps : List (Nat × Nat × Ar)} {l : List At}, chkPs P ρ place xs ps = true → FRel ρ σ a.tmps fr H.length → layR fr K ps l → l.all (·.lt H.length) = true →
    ∃ l', Instr.fill place (l.map (ren ρ σ)).toArray (xs.map fun p => (p.1, a.eval p.2)) = some (l'.map (ren ρ σ)).toArray ∧ K (.rc l') ∧ l'.all (·.lt H.length) = true
  | [], [], l, _, _, h, hl => ⟨l, rfl, h, hl⟩
  | (i, x) :: xs, (off, sz, y) :: ps, l, hc, hf, h, hl => by
    simp only [chkPs, Bool.and_eq_true] at hc
    obtain ⟨⟨h1, h2⟩, h3⟩ := hc
    split at h1
    · rename_i o' s hp
      simp only [Bool.and_eq_true, beq_iff_eq] at h1
      obtain ⟨rfl, rfl⟩ := h1
      simp only [layR] at h
      split at h
      · rename_i b he
        cases hb : (Nat.blt o' l.length && Nat.beq s 1) with
        | false => rw [hb] at h; exact h.elim
        | true =>
        rw [hb] at h
        simp only [Bool.and_eq_true] at hb
        obtain ⟨hcell, h⟩ := h
        have b1 : o' < l.length := Nat.le_of_ble_eq_true hb.1
        obtain rfl := Nat.eq_of_beq_eq_true hb.2
        obtain ⟨e1, e2⟩ := chkAr_sound h2 hf he
        obtain ⟨l', q1, q2, q3⟩ := layR_fill (xs := xs) h3 hf h (by
          rw [List.all_eq_true] at hl ⊢
          intro c hc
          rcases List.mem_or_eq_of_mem_set hc with h | h
          · exact hl c h
          · rw [h]; exact e2)
        refine ⟨l', ?_, q2, q3⟩
        obtain ⟨c1, c2⟩ := ren_one (ρ := ρ) (σ := σ) hcell
        have hsz : (ren ρ σ b).cells.size = 1 := by rw [c2]; rfl
        simp only [List.map_cons, Instr.fill, hp, e1, renS, hsz]
        rw [if_neg (by simp; omega)]
        rw [← q1]
        congr 1
        apply Array.ext'
        simp [c2]
      · exact h.elim
    · cases h1
  | [], _ :: _, _, hc, _, _, _ => by simp [chkPs] at hc
  | _ :: _, [], _, hc, _, _, _ => by simp [chkPs] at hc

theorem e_brc {z0 : List At} {ps : List (Nat × Nat × Ar)} (hc : chkQ P ρ o.op (.brc z0 ps) = true) (hf : FRel ρ σ a.tmps fr H.length) (hh : HRel ρ σ w H) (hv : vopE P ρ fr H (.brc z0 ps) K) (hn : Nx ρ σ H w o a K next) : o.wp P a w next Q := by
  simp only [vopE] at hv
  simp only [chkQ] at hc
  split at hc
  · rename_i t parts ho
    simp only [Bool.and_eq_true] at hc
    obtain ⟨h0, h1⟩ := hc
    obtain ⟨hz1, -, hz3⟩ := zeroA_sound (P := P) (ρ := ρ) (σ := σ) (w := w) h0
    split at h1
    · rename_i fields hu
      simp only [Bool.and_eq_true] at h1
      obtain ⟨h2, h3⟩ := h1
      have h3' : fields.toList.all (fun f => (sizeT P f.type).isSome) = true := by rw [← h3]; simp
      obtain ⟨l', e1, e2, e3⟩ := layR_fill (a := a) h2 hf hv (hz3 _)
      refine here hn hh e2 (by simpa [Sv.lt] using e3) rfl ?_
      have hm : (fields.mapM (m := Sem) fun f => do pure (f.offset, ← Go.sizeOf f.type)).run P w = .ok (fields.toList.map fun f => (f.offset, (sizeT P f.type).getD 0)).toArray w := by
        rw [Array.mapM_eq_mapM_toList, Sem.run_map, mapM_fields h3', Result.andThen_ok]
      have hpl : (fun (i : Nat) => (fields.toList.map fun f => (f.offset, (sizeT P f.type).getD 0)).toArray[i]?) = (fun (i : Nat) => match fields[i]? with | some (f : Field) => (match sizeT P f.type with | some s => some (f.offset, s) | none => none) | none => none) := by
        funext i
        simp only [List.getElem?_toArray, List.getElem?_map, Array.getElem?_toList]
        cases hfi : fields[i]? with
        | none => rfl
        | some f =>
          have hmem : f ∈ fields.toList := by
            rw [Array.mem_toList_iff]; exact Array.mem_of_getElem? hfi
          obtain ⟨s, hs⟩ := Option.isSome_iff_exists.1 (List.all_eq_true.1 h3' f hmem)
          simp [hs]
      have hfill : Instr.fill (fun (i : Nat) => match fields[i]? with | some (f : Field) => (match sizeT P f.type with | some s => some (f.offset, s) | none => none) | none => none) (Value.agg (z0.map (ren ρ σ)).toArray).cells ((parts.map fun p => (p.1, a.eval p.2)).toList) = some (l'.map (ren ρ σ)).toArray := by
        rw [Array.toList_map]; exact e1
      simp only [execOp, ho, Instr.build, Sem.run_bind, hz1, Result.andThen_ok, run_underlying' hu, hm]
      rw [hpl]
      split
      · rename_i c heq
        have := heq.symm.trans hfill
        cases this
        rfl
      · rename_i hne
        exact absurd hfill (hne _)
    · cases h1
  · cases hc

theorem e_bxr {y : Ar} (hc : chkQ P ρ o.op (.bxr y) = true) (hf : FRel ρ σ a.tmps fr H.length) (hh : HRel ρ σ w H) (hv : vopE P ρ fr H (.bxr y) K) (hn : Nx ρ σ H w o a K next) : o.wp P a w next Q := by
 simp only [vopE] at hv
 simp only [chkQ] at hc
 split at hc
 ·rename_i t x ho
  split at hv
  ·rename_i l he
   obtain ⟨_, rfl, hl, hv⟩ := hv
   obtain ⟨e1, e2⟩ := chkAr_sound hc hf he
   have hlt : (Bk.rw l).lt H.length = true := by
    simp only [Bk.lt, List.all_eq_true, Bool.and_eq_true] at *
    simp only [Sv.lt, List.all_eq_true] at e2
    exact fun b hb => ⟨e2 b hb, hl b hb⟩
   refine new_at (T := t) (c := .rw l) hn hh hlt (v := .one (.pt H.length 0)) (by simp [Sv.lt, At.lt]) hv (x := .pointer (some ⟨w.heap.size, 0, none⟩)) (by simp [renS, ren, setAt_same]) ?_
   simp [execOp, ho, Instr.box, newVar, newRow, e1, renS, cellsB, Value.cells]
  ·exact hv.elim
 ·cases hc

/-! ### structs -/
theorem part_hd {e : TypeId} (h1 : oneT P e = true) {hd : List Int} {n i : Nat} {f : By} {z : Int} (hz : hd[i]? = some z) (hlt : i < n) :
  (part e (cellsOf hd n f) i).run P w = .ok (.int .i64 z) w := by
 unfold part
 rw [Sem.run_bind, run_oneT h1]
 simp only [Result.andThen_ok, Bool.false_eq_true, if_false]
 rw [cellsOf_get _ _ _ _ hlt, cel_hd hz]
 rfl
theorem part_ag {e : TypeId} {m : Nat} (hs : sizeT P e = some m) {d : TypeDesc} (hu : P.underlying e = some d) (hd : aggB d = true) {hd' : List Int} {n i : Nat} {f : By} (h0 : hd'.length ≤ i) (hle : i + m ≤ n) :
  (part e (cellsOf hd' n f) i).run P w = .ok (.agg (cellsOf [] m (sh f i))) w := by
 unfold part
 rw [Sem.run_bind, run_isAgg' hu, hd]
 simp only [Result.andThen_ok, if_true, Sem.run_bind, run_sizeOf' hs, Sem.run_pure]
 congr 2
 apply Array.ext'
 unfold cellsOf
 simp only [Array.toList_extract, List.extract_eq_take_drop]
 apply cells_ext
 ·simp; omega
 ·intro x hx
  have e1 : hd'[i + x]? = none := List.getElem?_eq_none (by omega)
  simp [cel, List.getElem?_drop, hx, show i + x < n by omega, e1, sh]

theorem eq_flds {D : Nat} (hD : 20 ≤ D) {hd hd' : List Int} {n : Nat} {f g : By} {h : Nat} (h1 : hd.length = h) (h2 : hd'.length = h) (hn : h ≤ n) : ∀ (fl : List Field) (q j : Nat) (fs : List (Nat × Nat)), chkFl P q j fl fs = true → (q = 0 ∨ j + q = h) → fs.all (fun p => Nat.ble h p.1 && Nat.ble (p.1 + p.2) n) = true →
    (forIn (m := Sem) fl ((none, ()) : Option Bool × Unit) fun (f_1 : Field) _ =>
      if f_1.name ≠ "_" then do
        let r ← (do Op.equalIn D f_1.type (← part f_1.type (cellsOf hd n f) f_1.offset) (← part f_1.type (cellsOf hd' n g) f_1.offset))
        if (!r) = true then pure (ForInStep.done (some false, ())) else pure (ForInStep.yield (none, ()))
      else pure (ForInStep.yield (none, ()))).run P w = .ok (if ((hd.drop j).take q == (hd'.drop j).take q) && fs.all (fun p => eqB p.2 (sh f p.1) (sh g p.1)) then (none, ()) else (some false, ())) w
  | [], q, j, fs, hc, hq, hfs => by
    cases q with
    | succ q => simp [chkFl] at hc
    | zero =>
      cases fs with
      | nil => simp
      | cons p r => simp [chkFl] at hc
  | F :: r, 0, j, [], hc, _, _ => by simp [chkFl] at hc
  | F :: r, q + 1, j, fs, hc, hq, hfs => by
    simp only [chkFl, Bool.and_eq_true, bne_iff_ne, beq_iff_eq] at hc
    obtain ⟨⟨⟨hne, hoff⟩, hty⟩, hr⟩ := hc
    have hjh : j < h := by omega
    have hu : P.underlying F.type = some (.int .i64) := by
      unfold intT at hty
      split at hty
      · rename_i ks e; cases hty; exact e
      · cases hty
    have ho : oneT P F.type = true := by simp [oneT, hu, aggB]
    have g1 : hd[j]? = some (hd[j]'(by omega)) := by simp [show j < hd.length by omega]
    have g2 : hd'[j]? = some (hd'[j]'(by omega)) := by simp [show j < hd'.length by omega]
    obtain ⟨D', rfl⟩ : ∃ D', D = D' + 1 := ⟨D - 1, by omega⟩
    have ih := eq_flds hD (f := f) (g := g) h1 h2 hn r q (j + 1) fs hr (by omega) hfs
    rw [List.forIn_cons]
    rw [if_pos hne]
    have hone : (do Op.equalIn (D' + 1) F.type (← part F.type (cellsOf hd n f) F.offset) (← part F.type (cellsOf hd' n g) F.offset) : Sem Bool).run P w = .ok (hd[j]'(by omega) == hd'[j]'(by omega)) w := by
      rw [hoff]
      simp only [Sem.run_bind, part_hd ho g1 (show j < n by omega), part_hd ho g2 (show j < n by omega), Result.andThen_ok]
      unfold Op.equalIn
      simp only [Sem.run_bind, run_underlying' hu, Result.andThen_ok, if_true, Sem.run_pure]
    have t1 : (hd.drop j).take (q + 1) = hd[j]'(by omega) :: (hd.drop (j + 1)).take q := by
      rw [List.drop_eq_getElem_cons (by omega), List.take_succ_cons]
    have t2 : (hd'.drop j).take (q + 1) = hd'[j]'(by omega) :: (hd'.drop (j + 1)).take q := by
      rw [List.drop_eq_getElem_cons (by omega), List.take_succ_cons]
    rw [t1, t2]
    simp only [Sem.run_bind] at hone ⊢
    rw [hone]
    simp only [Result.andThen_ok]
    cases hb : (hd[j]'(by omega) == hd'[j]'(by omega)) with
    | false => simp [hb, List.cons_beq_cons]
    | true =>
      simp only [Bool.not_true, Bool.false_eq_true, if_false, Sem.run_pure, Result.andThen_ok]
      rw [ih, List.cons_beq_cons, hb, Bool.true_and]
  | F :: r, 0, j, (off, m) :: fs, hc, hq, hfs => by
    simp only [chkFl, Bool.and_eq_true, bne_iff_ne, beq_iff_eq] at hc
    obtain ⟨⟨⟨⟨⟨hne, hoff⟩, hs⟩, ha⟩, hu⟩, hr⟩ := hc
    simp only [List.all_cons, Bool.and_eq_true] at hfs
    obtain ⟨⟨b1, b2⟩, hfs⟩ := hfs
    have b1 := Nat.le_of_ble_eq_true b1
    have b2 := Nat.le_of_ble_eq_true b2
    obtain ⟨len, e, hu⟩ : ∃ len e, P.underlying F.type = some (.array len e) := by
      split at hu
      · rename_i l e hu2; exact ⟨l, e, hu2⟩
      · cases hu
    have ih := eq_flds hD (f := f) (g := g) h1 h2 hn r 0 j fs hr (.inl rfl) hfs
    rw [List.forIn_cons]
    rw [if_pos hne]
    have hone : (do Op.equalIn D F.type (← part F.type (cellsOf hd n f) F.offset) (← part F.type (cellsOf hd' n g) F.offset) : Sem Bool).run P w = .ok (eqB m (sh f off) (sh g off)) w := by
      rw [hoff]
      simp only [Sem.run_bind, part_ag hs hu rfl (hd' := hd) (n := n) (i := off) (f := f) (by omega) b2, part_ag hs hu rfl (hd' := hd') (n := n) (i := off) (f := g) (by omega) b2, Result.andThen_ok]
      exact eq_arr 20 F.type m ha ⟨len, e, hu⟩ D hD _ _
    simp only [Sem.run_bind] at hone ⊢
    rw [hone]
    simp only [Result.andThen_ok]
    cases hb : eqB m (sh f off) (sh g off) with
    | false => simp [hb]
    | true =>
      simp only [Bool.not_true, Bool.false_eq_true, if_false, Sem.run_pure, Result.andThen_ok]
      rw [ih]
      simp only [List.all_cons, hb, Bool.true_and]

theorem eq_struct {t : TypeId} {fields : Array Field} (hu : P.underlying t = some (.struct fields)) (hst : P.stoodInHeld t = false) {hd hd' : List Int} {n h : Nat} {f g : By} {fs : List (Nat × Nat)} (h1 : hd.length = h) (h2 : hd'.length = h) (hn : h ≤ n) (hc : chkFl P h 0 fields.toList fs = true) (hfs : fs.all (fun p => Nat.ble h p.1 && Nat.ble (p.1 + p.2) n) = true) :
  (Op.equal t (.agg (cellsOf hd n f)) (.agg (cellsOf hd' n g))).run P w = .ok (eqSt fs hd hd' f g) w := by
 show (Op.equalIn (9999 + 1) t _ _).run P w = _
 have key := eq_flds (P := P) (w := w) (D := 9999) (by decide) h1 h2 hn (f := f) (g := g) fields.toList h 0 fs hc (.inr (by omega)) hfs
 unfold Op.equalIn
 have hpr : (program).run P w = .ok P w := rfl
 simp only [Sem.run_bind, run_underlying' hu, Result.andThen_ok, hpr, hst, Bool.false_eq_true, if_false]
 rw [← Array.forIn_toList]
 simp only [List.drop_zero] at key
 rw [List.take_of_length_le (by omega), List.take_of_length_le (by omega)] at key
 simp only [bind_assoc] at key ⊢
 rw [key]
 simp only [Result.andThen_ok]
 unfold eqSt
 generalize (hd == hd' && fs.all fun p => eqB p.2 (sh f p.1) (sh g p.1)) = b
 cases b <;> rfl

theorem e_eqs {neg : Bool} {h n : Nat} {fs : List (Nat × Nat)} {x' y' : Ar} (hc : chkQ P ρ o.op (.eqs neg h n fs x' y') = true) (hf : FRel ρ σ a.tmps fr H.length) (hh : HRel ρ σ w H) (hv : vopE P ρ fr H (.eqs neg h n fs x' y') K) (hn : Nx ρ σ H w o a K next) : o.wp P a w next Q := by
  simp only [vopE] at hv
  split at hv
  · rename_i hd m f hd' m' g hx hy
    cases hb : (Nat.beq m n && Nat.beq m' n && Nat.beq hd.length h && Nat.beq hd'.length h) with
    | false => rw [hb] at hv; exact hv.elim
    | true =>
    rw [hb] at hv
    simp only [Bool.and_eq_true] at hb
    obtain rfl := Nat.eq_of_beq_eq_true hb.1.1.1
    obtain rfl := Nat.eq_of_beq_eq_true hb.1.1.2
    have l1 := Nat.eq_of_beq_eq_true hb.1.2
    have l2 := Nat.eq_of_beq_eq_true hb.2
    obtain ⟨_, rfl, hv⟩ := hv
    simp only [chkQ] at hc
    split at hc
    · rename_i op t x y yt ho
      simp only [Bool.and_eq_true, decide_eq_true_eq, Bool.not_eq_true'] at hc
      obtain ⟨⟨⟨⟨⟨⟨rfl, h0⟩, hst⟩, h2⟩, h3⟩, h4⟩, h5⟩ := hc
      obtain ⟨e1, -⟩ := chkAr_sound h3 hf hx
      obtain ⟨e2, -⟩ := chkAr_sound h4 hf hy
      split at h0
      · rename_i fields hu
        simp only [Bool.and_eq_true] at h0
        have heq := eq_struct (w := w) hu hst l1 l2 (Nat.le_of_ble_eq_true h5) (f := f) (g := g) h0.1 h0.2
        refine here hn hh hv rfl rfl ?_
        cases neg
        · simp [execOp, ho, e1, e2, renS, ren, eqGuard, h2, binOp, heq]
        · simp [execOp, ho, e1, e2, renS, ren, eqGuard, h2, binOp, heq]
      · cases h0
    · cases hc
  · exact hv.elim

theorem e_fld {y : Ar} {off n : Nat} (hc : chkQ P ρ o.op (.fld y off n) = true) (hf : FRel ρ σ a.tmps fr H.length) (hh : HRel ρ σ w H) (hv : vopE P ρ fr H (.fld y off n) K) (hn : Nx ρ σ H w o a K next) : o.wp P a w next Q := by
 simp only [vopE] at hv
 split at hv
 ·rename_i hd m f he
  obtain ⟨⟨b1, b2⟩, hv⟩ := hv
  simp only [chkQ] at hc
  split at hc
  ·rename_i t x j ho
   simp only [Bool.and_eq_true] at hc
   obtain ⟨h1, h2⟩ := hc
   obtain ⟨e1, -⟩ := chkAr_sound h1 hf he
   split at h2
   ·rename_i fields hu
    split at h2
    ·rename_i F hF
     simp only [Bool.and_eq_true, beq_iff_eq] at h2
     obtain ⟨rfl, h3⟩ := h2
     obtain ⟨q1, q2⟩ := aggT_spec (w := w) h3
     obtain ⟨d, hd1, hd2⟩ : ∃ d, P.underlying F.type = some d ∧ aggB d = true := by
      unfold aggT at h3
      split at h3
      ·rename_i d hd
       by_cases q : aggB d = true
       ·exact ⟨d, hd, q⟩
       ·simp [q] at h3
      ·cases h3
     refine here hn hh hv rfl rfl ?_
     have hp := part_ag (P := P) (w := w) q2 hd1 hd2 (hd' := hd) (n := m) (i := F.offset) (f := f) b1 b2
     simp [execOp, ho, e1, renS, ren, Instr.field, Sem.run_bind, run_underlying' hu, hF, asAgg, hp]
    ·cases h2
   ·cases h2
  ·cases hc
 ·exact hv.elim
end
end Hf
/- The second layer, part 3: new slices and append. -/
namespace Hf
open Go
section
variable {P : Program} {ρ : Nat → FuncId} {σ : Nat → Nat} {H : List Blk} {w : World} {o : Oper} {a : Act} {fr : List (Nat × Sv)} {K : Sv → List Blk → Prop}
variable {next : Act → World → Prop} {Q : Exit → Act → World → Prop}
theorem e_bac {z0 : List C1} {ps : List (Nat × Nat × Ar)} (hc : chkQ P ρ o.op (.bac z0 ps) = true) (hf : FRel ρ σ a.tmps fr H.length) (hh : HRel ρ σ w H) (hv : vopE P ρ fr H (.bac z0 ps) K) (hn : Nx ρ σ H w o a K next) : o.wp P a w next Q := by
  simp only [vopE] at hv
  simp only [chkQ] at hc
  split at hc
  · rename_i t parts ho
    simp only [Bool.and_eq_true] at hc
    obtain ⟨h0, h1⟩ := hc
    have hz1 := zeroC_sound (P := P) (w := w) h0
    have fin : ∀ (place : Nat → Option (Nat × Nat)), chkPs P ρ place parts.toList ps = true →
        (∀ cells, Instr.fill place (Value.agg (z0.map renC).toArray).cells ((parts.map fun p => (p.1, a.eval p.2)).toList) = some cells → (execOp a.eval o).run P w = .ok (.value (.agg cells)) w) → o.wp P a w next Q := by
      intro place hps hrun
      obtain ⟨l', e1, e2⟩ := layC_fill (a := a) hps hf hv
      refine here hn hh e2 rfl rfl ?_
      refine hrun _ ?_
      rw [Array.toList_map]
      exact e1
    split at h1
    · rename_i fields hu
      simp only [Bool.and_eq_true] at h1
      obtain ⟨h2, h3⟩ := h1
      have h3' : fields.toList.all (fun f => (sizeT P f.type).isSome) = true := by rw [← h3]; simp
      refine fin _ h2 ?_
      intro cells hfill
      have hm : (fields.mapM (m := Sem) fun f => do pure (f.offset, ← Go.sizeOf f.type)).run P w = .ok (fields.toList.map fun f => (f.offset, (sizeT P f.type).getD 0)).toArray w := by
        rw [Array.mapM_eq_mapM_toList, Sem.run_map, mapM_fields h3', Result.andThen_ok]
      have hpl : (fun (i : Nat) => (fields.toList.map fun f => (f.offset, (sizeT P f.type).getD 0)).toArray[i]?) = (fun (i : Nat) => match fields[i]? with | some (f : Field) => (match sizeT P f.type with | some s => some (f.offset, s) | none => none) | none => none) := by
        funext i
        simp only [List.getElem?_toArray, List.getElem?_map, Array.getElem?_toList]
        cases hfi : fields[i]? with
        | none => rfl
        | some f =>
          have hmem : f ∈ fields.toList := by
            rw [Array.mem_toList_iff]; exact Array.mem_of_getElem? hfi
          obtain ⟨s, hs⟩ := Option.isSome_iff_exists.1 (List.all_eq_true.1 h3' f hmem)
          simp [hs]
      simp only [execOp, ho, Instr.build, Sem.run_bind, hz1, Result.andThen_ok, run_underlying' hu, hm]
      rw [hpl]
      split
      · rename_i c heq
        have := heq.symm.trans hfill
        cases this
        rfl
      · rename_i hne
        exact absurd hfill (hne _)
    · rename_i l e hu
      split at h1
      · rename_i s hs
        refine fin _ h1 ?_
        intro cells hfill
        simp only [execOp, ho, Instr.build, Sem.run_bind, hz1, Result.andThen_ok, run_underlying' hu, run_sizeOf' hs]
        split
        · rename_i c heq
          have := heq.symm.trans hfill
          cases this
          rfl
        · rename_i hne
          exact absurd hfill (hne _)
      · cases h1
    · cases h1
  · cases hc

theorem Sp.world {σ' : Nat → Nat} {H' : List Blk} {w1 w2 : World} (h : Sp ρ σ H w σ' H' w1) (h1 : w2.heap = w1.heap) (h2 : w2.os = w1.os) (h3 : w2.tape = w1.tape) (h4 : w2.output = w1.output) : Sp ρ σ H w σ' H' w2 where
 h := ⟨fun k B e => by rw [h1]; exact h.h.at_ k B e, h.h.sep, h.h.clo⟩
 k := ⟨h2.trans h.k.os, h3.trans h.k.tape, h4.trans h.k.output, by rw [h1]; exact h.k.size, fun b hb hn => by rw [h1]; exact h.k.old b hb hn⟩
 len := h.len
 same := h.same
 rof := h.rof
 fresh := h.fresh

theorem new_atD (hn : Nx ρ σ H w o a K next) (hh : HRel ρ σ w H) {c : Bk} {T : TypeId} {v : Sv} (hl : c.lt H.length = true) (hv : v.lt (H.length + 1) = true) (hK : K v (H ++ [⟨false, c⟩]))
  {x : Value} (hx : x = renS ρ (setAt σ H.length w.heap.size) v)
  (hrun : (execOp a.eval o).run P w = .ok (.value x) (w.drew.alloc (.cells (cellsB ρ σ c) T))) (hz : frz c = (0, 0) := by rfl) : o.wp P a w next Q := by
 refine value_wp hrun ?_
 rw [hx]
 exact hn v _ _ _ hK ((Sp_alloc hh c hl T hz).world rfl rfl rfl rfl) (by simpa using hv)

theorem made_by (n esz : Nat) (h0 : esz ≠ 0) : (Array.range (n * esz)).map (fun x => (cellsOf [] esz (fun _ => 0))[x % (cellsOf [] esz (fun _ => 0)).size]!) = cellsOf [] (n * esz) (fun _ => 0) := by
 apply Array.ext_getElem?
 intro x
 by_cases hx : x < n * esz
 ·rw [cellsOf_get _ _ _ _ hx]
  have hlt : x % esz < esz := Nat.mod_lt _ (by omega)
  have hg : (cellsOf [] esz (fun _ => 0))[x % esz]! = cel [] (fun _ => 0) (x % esz) := by
   rw [getElem!_def, cellsOf_get _ _ _ _ hlt]
  simp only [cellsOf_size]
  simp [hx, hg, cel]
 ·rw [Array.getElem?_eq_none (by simp; omega), Array.getElem?_eq_none (by rw [cellsOf_size]; omega)]
theorem made_one (n : Nat) (z : Value) (hz : z.cells = #[z]) : (Array.range (n * 1)).map (fun x => z.cells[x % z.cells.size]!) = (List.replicate n z).toArray := by
 apply Array.ext_getElem?
 intro x
 by_cases hx : x < n
 ·simp [hx, hz, Nat.mod_one]
 ·rw [Array.getElem?_eq_none (by simp; omega), Array.getElem?_eq_none (by simp; omega)]

theorem zero1_sound {t : TypeId} {z : C1} (h : zero1 P t z = true) : ∃ i, P.info? t = some i ∧ i.zero = some (renC z) := by
 unfold zero1 at h
 split at h
 ·rename_i k n hv
  obtain ⟨i, hi, hz⟩ := Option.bind_eq_some_iff.1 hv
  simp only [Bool.and_eq_true, beq_iff_eq] at h
  obtain ⟨rfl, h⟩ := h
  split at h
  ·simp only [beq_iff_eq] at h; subst h; exact ⟨i, hi, hz⟩
  ·cases h
 ·rename_i x hv
  obtain ⟨i, hi, hz⟩ := Option.bind_eq_some_iff.1 hv
  split at h
  ·simp only [beq_iff_eq] at h; subst h; exact ⟨i, hi, hz⟩
  ·cases h
 ·rename_i hv
  obtain ⟨i, hi, hz⟩ := Option.bind_eq_some_iff.1 hv
  split at h
  ·exact ⟨i, hi, hz⟩
  ·cases h
 ·cases h
theorem renC_cells (z : C1) : (renC z).cells = #[renC z] := by cases z <;> rfl
theorem slT_spec {t e : TypeId} (h : slT P t = some e) : P.underlying t = some (.slice e) := by
 unfold slT at h
 split at h
 ·rename_i e' hu; cases h; exact hu
 ·cases h
theorem info_size {t : TypeId} {i : TypeInfo} {n : Nat} (hi : P.info? t = some i) (h : sizeT P t = some n) : i.size = n := by
 unfold sizeT at h; rw [hi] at h; simpa using h
theorem info_bytes {t : TypeId} {i : TypeInfo} {n : Nat} (hi : P.info? t = some i) (h : bytT P t = some n) : i.bytes = n := by
 unfold bytT at h; rw [hi] at h; simpa using h
theorem zeroOk_info {t : TypeId} {z : Zk} (h : zeroOk P t z = true) : ∃ i v, P.info? t = some i ∧ i.zero = some v ∧ v.cells = cellsB ρ σ z.bk := by
 unfold zeroOk at h
 split at h
 ·rename_i v hv
  obtain ⟨i, hi, hz⟩ := Option.bind_eq_some_iff.1 hv
  obtain ⟨h1, -⟩ := zcells_sound (ρ := ρ) (σ := σ) (H := ([] : List Blk)) h
  exact ⟨i, v, hi, hz, h1⟩
 ·cases h

theorem zero_by {e : TypeId} {esz : Nat} (h : (zeroOk P e (.by 0 esz) || (esz == 1 && zeroOk P e .u)) = true) : ∃ i z, P.info? e = some i ∧ i.zero = some z ∧ z.cells = cellsOf [] esz (fun _ => 0) := by
 rw [Bool.or_eq_true] at h
 rcases h with h | h
 ·obtain ⟨i, z, h1, h2, h3⟩ := zeroOk_info (ρ := fun _ => 0) (σ := fun _ => 0) h
  exact ⟨i, z, h1, h2, h3⟩
 ·simp only [Bool.and_eq_true, beq_iff_eq] at h
  obtain ⟨rfl, h⟩ := h
  obtain ⟨i, z, h1, h2, h3⟩ := zeroOk_info (ρ := fun _ => 0) (σ := fun _ => 0) h
  exact ⟨i, z, h1, h2, h3⟩

theorem e_mkb {esz bytes : Nat} {y : Ar} (hc : chkQ P ρ o.op (.mkb esz bytes y) = true) (hf : FRel ρ σ a.tmps fr H.length) (hh : HRel ρ σ w H) (hv : vopE P ρ fr H (.mkb esz bytes y) K) (hn : Nx ρ σ H w o a K next) : o.wp P a w next Q := by
 simp only [vopE] at hv
 split at hv
 ·rename_i z he
  obtain ⟨n, _, ⟨rfl, hle, hle2⟩, rfl, hv⟩ := hv
  simp only [chkQ] at hc
  split at hc
  ·rename_i t l c ho
   simp only [Bool.and_eq_true] at hc
   obtain ⟨⟨⟨c0, c1⟩, c2⟩, c3⟩ := hc
   have hne : esz ≠ 0 := by simpa using c0
   obtain ⟨e1, -⟩ := chkAr_sound c1 hf he
   obtain ⟨e2, -⟩ := chkAr_sound c2 hf he
   split at c3
   ·rename_i e hu
    simp only [Bool.and_eq_true, beq_iff_eq] at c3
    obtain ⟨⟨c3, c4⟩, c5⟩ := c3
    obtain ⟨i, v, hi, hz, hcs⟩ := zero_by c5
    have hs := info_size hi c3
    have hb := info_bytes hi c4
    have hbb : (bytes : Int) * (n : Int) ≤ 281474976710656 := by
     have h1 : bytes * n ≤ 100 * 1000000000 := Nat.mul_le_mul hle2 hle
     have h2 : ((bytes * n : Nat) : Int) ≤ 100000000000 := by omega
     rw [Int.natCast_mul] at h2
     omega
    have hrun := run_make (P := P) w t e i v (slT_spec hu) hi hz .i64 .i64 (n : Int) (n : Int) (by omega) (Int.le_refl _) (by rw [hb]; exact hbb) (by omega)
    refine new_at (T := e) (c := .by [] (n * esz) fun _ => 0) hn hh rfl (v := .one (.sl H.length 0 n n)) (by simp [Sv.lt, At.lt]) hv (x := .slice (some ⟨w.heap.size, 0, none⟩) n n) (by simp [renS, ren, setAt_same]) ?_
    simp only [execOp, ho, e1, e2, renS, ren, hrun, Sem.run_bind, Result.andThen_ok, Sem.run_pure, Int.toNat_natCast]
    have hm : madeCells v.cells (n * i.size) = cellsOf [] (n * esz) (fun _ => 0) := by
     have := made_by n esz hne
     unfold madeCells
     rw [hs, hcs]
     exact this
    rw [hm]
    rfl
   ·cases c3
  ·cases hc
 ·exact hv.elim

theorem e_mkr {z : C1} {bytes : Nat} {y : Ar} (hc : chkQ P ρ o.op (.mkr z bytes y) = true) (hf : FRel ρ σ a.tmps fr H.length) (hh : HRel ρ σ w H) (hv : vopE P ρ fr H (.mkr z bytes y) K) (hn : Nx ρ σ H w o a K next) : o.wp P a w next Q := by
 simp only [vopE] at hv
 split at hv
 ·rename_i y0 he
  obtain ⟨n, _, ⟨rfl, hle, hle2⟩, rfl, hv⟩ := hv
  simp only [chkQ] at hc
  split at hc
  ·rename_i t l c ho
   simp only [Bool.and_eq_true] at hc
   obtain ⟨⟨c1, c2⟩, c3⟩ := hc
   obtain ⟨e1, -⟩ := chkAr_sound c1 hf he
   obtain ⟨e2, -⟩ := chkAr_sound c2 hf he
   split at c3
   ·rename_i e hu
    simp only [Bool.and_eq_true, beq_iff_eq] at c3
    obtain ⟨⟨c3, c4⟩, c5⟩ := c3
    obtain ⟨i, hi, hz⟩ := zero1_sound c5
    have hs := info_size hi c3
    have hb := info_bytes hi c4
    have hbb : (bytes : Int) * (n : Int) ≤ 281474976710656 := by
     have h1 : bytes * n ≤ 100 * 1000000000 := Nat.mul_le_mul hle2 hle
     have h2 : ((bytes * n : Nat) : Int) ≤ 100000000000 := by omega
     rw [Int.natCast_mul] at h2
     omega
    have hrun := run_make (P := P) w t e i (renC z) (slT_spec hu) hi hz .i64 .i64 (n : Int) (n : Int) (by omega) (Int.le_refl _) (by rw [hb]; exact hbb) (by omega)
    have hlt : (Bk.rw (List.replicate n z.at)).lt H.length = true := by
     simp only [Bk.lt, List.all_eq_true, Bool.and_eq_true]
     intro b hb
     rw [List.mem_replicate] at hb
     rw [hb.2]
     cases z <;> exact ⟨rfl, rfl⟩
    refine new_at (T := e) (c := .rw (List.replicate n z.at)) hn hh hlt (v := .one (.sl H.length 0 n n)) (by simp [Sv.lt, At.lt]) hv (x := .slice (some ⟨w.heap.size, 0, none⟩) n n) (by simp [renS, ren, setAt_same]) ?_
    simp only [execOp, ho, e1, e2, renS, ren, hrun, Sem.run_bind, Result.andThen_ok, Sem.run_pure, Int.toNat_natCast]
    have hm : madeCells (renC z).cells (n * i.size) = (List.replicate n (renC z)).toArray := by
     unfold madeCells
     rw [hs]
     exact made_one n (renC z) (renC_cells z)
    rw [hm]
    simp only [cellsB, List.map_replicate, ren_at]
    rfl
   ·cases c3
  ·cases hc
 ·exact hv.elim

theorem e_bsy {ys : List Ar} (hc : chkQ P ρ o.op (.bsy ys) = true) (hf : FRel ρ σ a.tmps fr H.length) (hh : HRel ρ σ w H) (hv : vopE P ρ fr H (.bsy ys) K) (hn : Nx ρ σ H w o a K next) : o.wp P a w next Q := by
 simp only [vopE] at hv
 split at hv
 ·rename_i l hl
  obtain ⟨us, _, rfl, rfl, hv⟩ := hv
  have h1 : ∀ b ∈ us.map At.u, b.cell1 = true := by
   intro b hb
   obtain ⟨u, -, rfl⟩ := List.mem_map.1 hb
   rfl
  have hlen := atoms_length hl
  rw [List.length_map] at hlen
  simp only [chkQ, chkOp] at hc
  split at hc
  ·rename_i t len parts ho
   simp only [Bool.and_eq_true, beq_iff_eq, decide_eq_true_eq] at hc
   obtain ⟨⟨⟨rfl, c0⟩, c1⟩, c2⟩ := hc
   split at c2
   ·rename_i e hu
    simp only [Bool.and_eq_true, beq_iff_eq] at c2
    obtain ⟨c2, c3⟩ := c2
    split at c3
    ·rename_i z hz
     obtain ⟨i0, hi, hz'⟩ := Option.bind_eq_some_iff.1 hz
     have hzv : (zeroValue e).run P w = .ok z w := by simp [zeroValue, typeInfo, hi, hz']
     have hcs : ((us.map At.u).map (ren ρ σ)).toArray = cellsOf [] us.length (fun x => us.getD x 0) := by
      unfold cellsOf
      congr 1
      apply cells_ext
      ·simp
      ·intro x hx
       simp [hx, cel, ren]
     have hzero : ∀ (zs : Array Value), Instr.fill (fun i => some (i * 1, 1)) ((Array.range (ys.length * 1)).map (zs[· % zs.size]!)) ((parts.map fun p => (p.1, a.eval p.2)).toList) = some (cellsOf [] us.length (fun x => us.getD x 0)) := by
      intro zs
      have := fill_one (a := a) (j := 0) (cs := (Array.range (ys.length * 1)).map (zs[· % zs.size]!)) c1 hf hl h1 (by simp [hlen])
      rw [Array.toList_map, this.1, ← hcs]
      simp
     have hus : ys.length = us.length := hlen.symm
     refine new_at (c := .by [] us.length fun x => us.getD x 0) (T := e) hn hh rfl (v := .one (.sl H.length 0 us.length us.length)) (by simp [Sv.lt, At.lt]) hv (x := .slice (some ⟨w.heap.size, 0, none⟩) us.length us.length) (by simp [renS, ren, setAt_same]) ?_
     simp only [execOp, ho, Instr.buildSlice, Sem.run_bind, run_underlying' hu, Result.andThen_ok, run_sizeOf' c2]
     rw [if_neg (by omega)]
     by_cases h0 : ys.length * 1 = 0
     ·simp only [h0, if_true, Sem.run_bind, Sem.run_pure, Result.andThen_ok]
      have := hzero #[]
      rw [h0] at this
      rw [this]
      simp [newRow, cellsB, hus]
     ·simp only [h0, if_false, Sem.run_bind, hzv, Sem.run_pure, Result.andThen_ok]
      rw [hzero z.cells]
      simp [newRow, cellsB, hus]
    ·cases c3
   ·cases c2
  ·cases hc
 ·exact hv.elim

/-! ### append -/
theorem chkApp_spec {op : Op} {x y : Ar} {k : TypeId → Bool} (h : chkApp P ρ op x y k = true) : ∃ (c : Call) (u v : Operand) (t e : TypeId), op = .call c ∧ c.callee = .builtin .append ∧ c.args = #[u, v] ∧ c.argTypes = #[t, t] ∧
  chkAr ρ u x = true ∧ chkAr ρ v y = true ∧ P.underlying t = some (.slice e) ∧ k e = true := by
 unfold chkApp at h
 split at h
 ·rename_i c
  simp only [Bool.and_eq_true] at h
  obtain ⟨⟨h1, h2⟩, h3⟩ := h
  split at h1
  ·rename_i hcal
   split at h2
   ·rename_i u v hargs
    simp only [Bool.and_eq_true] at h2
    split at h3
    ·rename_i t t' htys
     simp only [Bool.and_eq_true, beq_iff_eq] at h3
     obtain ⟨rfl, h3⟩ := h3
     split at h3
     ·rename_i e hu
      refine ⟨c, u, v, t, e, rfl, hcal, ?_, ?_, h2.1, h2.2, slT_spec hu, h3⟩
      ·rw [← Array.toList_inj]; simpa using hargs
      ·rw [← Array.toList_inj]; simpa using htys
     ·cases h3
    ·cases h3
   ·cases h2
  ·cases h1
 ·cases h

theorem app_exec {c : Call} {u v : Operand} {t : TypeId} {x : Value} {w' : World} (ho : o.op = .call c) (hcal : c.callee = .builtin .append) (hargs : c.args = #[u, v]) (htys : c.argTypes = #[t, t])
  (hrun : (Builtin.append_ #[t, t] o.type #[a.eval u, a.eval v]).run P w = .ok x w') : (execOp a.eval o).run P w = .ok (.value x) w' := by
 simp [execOp, ho, resolve, hcal, hargs, htys, invoke, builtin, hrun]

theorem rdB_len {esz m : Nat} {ay : At} {g : By} (h : rdB H esz ay m g) : (Builtin.lenOf (ren ρ σ ay)).run P w = .ok m w := by
 cases ay <;> simp only [rdB] at h
 ·obtain ⟨rfl, -⟩ := h; simp [ren, Builtin.lenOf]
 ·subst h; simp [ren, Builtin.lenOf]
theorem rdB_cells {esz m : Nat} {ay : At} {g : By} (hh : HRel ρ σ w H) (h : rdB H esz ay m g) (w' : World) (hw : w'.heap = w.heap) : (Builtin.firstCells esz m (ren ρ σ ay)).run P w' = .ok (cellsOf [] (m * esz) g) w' := by
 cases ay <;> simp only [rdB] at h
 ·obtain ⟨rfl, r, N, f, hk, hle, hg⟩ := h
  obtain ⟨T, hT⟩ := blk_of hh hk
  simp only [ren]
  exact run_firstCells_at (by rw [hw]; exact hT) fun j hj => by
   rw [cellsB_by, cellsOf_get _ _ _ _ (by omega), cel_by (by simp), cel_by (by simp), hg j hj]
 ·subst h; simp [ren, Builtin.firstCells, cellsOf]
theorem rdR_len {L : List At} {ay : At} (h : rdR H ay L) : (Builtin.lenOf (ren ρ σ ay)).run P w = .ok L.length w := by
 cases ay <;> simp only [rdR] at h
 ·obtain ⟨r, l, -, h1, rfl⟩ := h; simp [ren, Builtin.lenOf]; omega
 ·subst h; simp [ren, Builtin.lenOf]
theorem rdR_cells {L : List At} {ay : At} (hh : HRel ρ σ w H) (h : rdR H ay L) (w' : World) (hw : w'.heap = w.heap) : (Builtin.firstCells 1 L.length (ren ρ σ ay)).run P w' = .ok (L.map (ren ρ σ)).toArray w' := by
 cases ay <;> simp only [rdR] at h
 ·rename_i k o m' cap
  obtain ⟨r, l, hk, h1, rfl⟩ := h
  obtain ⟨T, hT⟩ := blk_of hh hk
  have hl : ((l.drop o).take m').length = m' := by simp; omega
  rw [hl]
  simp only [ren]
  have := run_firstCells_at (P := P) (w := w') (size := 1) (n := m') (b := σ k) (off := o) (cap := cap) (g := fun j => ((l.map (ren ρ σ))[o + j]?).getD default) (by rw [hw]; exact hT) fun j hj => by
   have : o + j < l.length := by omega
   simp [cellsB, this]
  rw [this]
  congr 1
  apply Array.ext_getElem?
  intro x
  by_cases hx : x < m'
  ·simp [hx, List.getElem?_take_of_lt hx, List.getElem?_drop, show o + x < l.length by omega]
  ·rw [Array.getElem?_eq_none (by simp; omega), Array.getElem?_eq_none (by simp; omega)]
 ·subst h; simp [ren, Builtin.firstCells]
theorem rdR_lt {L : List At} {ay : At} (hh : HRel ρ σ w H) (h : rdR H ay L) : ∀ b ∈ L, b.lt H.length = true ∧ b.cell1 = true := by
 cases ay <;> simp only [rdR] at h
 ·obtain ⟨r, l, hk, h1, rfl⟩ := h
  have hl := hh.clo _ _ hk
  simp only [Bk.lt, List.all_eq_true, Bool.and_eq_true] at hl
  exact fun b hb => hl b (List.mem_of_mem_drop (List.mem_of_mem_take hb))
 ·subst h; simp

/-- bytes laid behind others -/
theorem apf_cells {esz n m cap : Nat} {f g : By} (h : n + m ≤ cap) : cellsOf [] (n * esz) f ++ cellsOf [] (m * esz) g ++ cellsOf [] ((cap - (n + m)) * esz) (fun _ => 0) = cellsOf [] (cap * esz) (apf esz n m f g) := by
 obtain ⟨d, rfl⟩ : ∃ d, cap = n + m + d := ⟨cap - (n + m), by omega⟩
 rw [show n + m + d - (n + m) = d by omega]
 have e1 : (n + m + d) * esz = n * esz + m * esz + d * esz := by rw [Nat.add_mul, Nat.add_mul]
 have e2 : (n + m) * esz = n * esz + m * esz := Nat.add_mul _ _ _
 apply Array.ext_getElem?
 intro x
 by_cases hx : x < (n + m + d) * esz
 ·rw [cellsOf_get _ _ _ _ hx, cel_by (by simp)]
  by_cases h1 : x < n * esz
  ·rw [Array.getElem?_append_left (by simp [cellsOf_size]; omega), Array.getElem?_append_left (by simpa [cellsOf_size] using h1), cellsOf_get _ _ _ _ h1, cel_by (by simp)]
   simp [apf, h1]
  ·by_cases h2 : x < n * esz + m * esz
   ·rw [Array.getElem?_append_left (by simp [cellsOf_size]; omega), Array.getElem?_append_right (by simp [cellsOf_size]; omega), cellsOf_size, cellsOf_get _ _ _ _ (by omega), cel_by (by simp)]
    simp [apf, h1, e2, h2]
   ·rw [Array.getElem?_append_right (by simp [cellsOf_size]; omega)]
    simp only [Array.size_append, cellsOf_size]
    rw [cellsOf_get _ _ _ _ (by omega), cel_by (by simp)]
    simp [apf, h1, e2, h2]
 ·rw [Array.getElem?_eq_none (by simp [cellsOf_size]; omega), Array.getElem?_eq_none (by rw [cellsOf_size]; omega)]

theorem e_len {y : Ar} (hc : chkQ P ρ o.op (.len y) = true) (hf : FRel ρ σ a.tmps fr H.length) (hh : HRel ρ σ w H) (hv : vopE P ρ fr H (.len y) K) (hn : Nx ρ σ H w o a K next) : o.wp P a w next Q := by
 simp only [vopE] at hv
 split at hv
 ·rename_i v he
  obtain ⟨n, h1, hv⟩ := hv
  refine s_len (y := y) (K := K) hc hf hh ?_ hn
  cases v <;> simp only [lenA] at h1 <;> first | cases h1 | skip
  ·simp only [vop, he]; exact hv
  ·simp only [vop, he]; exact hv
 ·exact hv.elim

theorem e_ids {y j : Ar} {esz : Nat} (hc : chkQ P ρ o.op (.ids y j esz) = true) (hf : FRel ρ σ a.tmps fr H.length) (hh : HRel ρ σ w H) (hv : vopE P ρ fr H (.ids y j esz) K) (hn : Nx ρ σ H w o a K next) : o.wp P a w next Q := by
 simp only [vopE] at hv
 split at hv
 ·rename_i v z he1 he2
  obtain ⟨k, off, len, cap, x, q, rfl, h1, h2, h3, hv⟩ := hv
  refine s_ids (y := y) (j := j) (esz := esz) (K := K) hc hf hh ?_ hn
  simp only [vop, he1, he2]
  exact ⟨x, q, h1, h2, h3, hv⟩
 ·exact hv.elim

theorem e_apb {esz bytes : Nat} {x y : Ar} (hc : chkQ P ρ o.op (.apb esz bytes x y) = true) (hf : FRel ρ σ a.tmps fr H.length) (hh : HRel ρ σ w H) (hv : vopE P ρ fr H (.apb esz bytes x y) K) (hn : Nx ρ σ H w o a K next) : o.wp P a w next Q := by
 simp only [chkQ, Bool.and_eq_true] at hc
 obtain ⟨hc0, hc⟩ := hc
 have hne : esz ≠ 0 := by simpa using hc0
 obtain ⟨c, u, v, t, e, ho, hcal, hargs, htys, c1, c2, hu, hk⟩ := chkApp_spec hc
 simp only [Bool.and_eq_true, beq_iff_eq] at hk
 obtain ⟨⟨hs, hb⟩, hz0⟩ := hk
 obtain ⟨i, z, hi, hz, hzc⟩ : ∃ i z, P.info? e = some i ∧ i.zero = some z ∧ z.cells = cellsOf [] esz (fun _ => 0) := by
  rw [Bool.or_eq_true] at hz0
  rcases hz0 with h | h
  ·obtain ⟨i, z, h1, h2, h3⟩ := zeroOk_info (ρ := ρ) (σ := σ) h
   exact ⟨i, z, h1, h2, h3⟩
  ·simp only [Bool.and_eq_true, beq_iff_eq] at h
   obtain ⟨rfl, h⟩ := h
   obtain ⟨i, z, h1, h2, h3⟩ := zeroOk_info (ρ := ρ) (σ := σ) h
   exact ⟨i, z, h1, h2, h3⟩
 have his := info_size hi hs
 have hib := info_bytes hi hb
 have hzz : ∀ d, Builtin.zeroCells z.cells d = cellsOf [] (d * esz) (fun _ => 0) := by
  intro d
  have := made_by d esz hne
  unfold Builtin.zeroCells
  rw [hzc]
  simp only [cellsOf_size] at this ⊢
  exact this
 simp only [vopE] at hv
 split at hv
 rotate_left
 ·exact hv.elim
 rename_i ax ay he1 he2
 obtain ⟨R, hap, hR⟩ := hv
 unfold apB at hap
 split at hap
 ·rename_i k off n cap
  obtain ⟨m, g, N, f, hr, hk, ⟨b1, b2, b3, b4⟩, hroom, hgrow⟩ := hap
  replace hroom := fun h => hR _ _ (hroom h)
  replace hgrow := fun h c hc => hR _ _ (hgrow h c hc)
  obtain ⟨e1, l1⟩ := chkAr_sound c1 hf he1
  obtain ⟨e2, -⟩ := chkAr_sound c2 hf he2
  simp only [renS] at e2
  obtain ⟨T, hT⟩ := blk_of hh hk
  by_cases hcap : n + m ≤ cap
  ·have hroom := hroom hcap
   have hle : off + n * esz + m * esz ≤ N := by
    have : (n + m) * esz ≤ cap * esz := Nat.mul_le_mul_right _ hcap
    rw [Nat.add_mul] at this
    omega
   have hrun := run_append_room (P := P) (ty := o.type) hu hs hT (rdB_len (P := P) (ρ := ρ) (σ := σ) (w := w) hr) (rdB_cells (P := P) hh hr w rfl) (by rw [cellsOf_size]) (by rw [cellsB_by, cellsOf_size, cellsOf_size]; exact hle) (cellsOf_one _ _ _) hcap
   rw [cellsB_by, cellsOf_size, spl_cells (by simp) hle] at hrun
   have hrun' := (show (Builtin.append_ #[t, t] o.type #[a.eval u, a.eval v]).run P w = (Builtin.append_ #[t, t] o.type #[ren ρ σ (.sl k off n cap), ren ρ σ ay]).run P w by rw [e1, e2]; rfl).trans hrun
   refine value_wp (app_exec ho hcal hargs htys hrun') ?_
   ·exact hn (.one (.sl k off (n + m) cap)) _ σ _ hroom (Sp_store hh hk (c := .by [] N (spl f (off + n * esz) (m * esz) g)) rfl) (by simpa [Sv.lt, At.lt] using l1)
  ·have hgrow := hgrow (by omega) (grownCap w (n + m) cap e) (grownCap_ge _ _ _ _)
   have hold : (Builtin.firstCells i.size n (.slice (some ⟨σ k, off, none⟩) n cap)).run P w.drew = .ok (cellsOf [] (n * esz) (sh f off)) w.drew := by
    rw [his]
    exact run_firstCells_at hT fun j hj => by
     have : n * esz ≤ cap * esz := Nat.mul_le_mul_right _ b2
     rw [cellsB_by, cellsOf_get _ _ _ _ (by omega), cel_by (by simp), cel_by (by simp)]; rfl
   have hrun := run_append_new (P := P) (ty := o.type) hu hi hz hold (rdB_len (P := P) (ρ := ρ) (σ := σ) (w := w) hr) (by rw [his]; exact rdB_cells (P := P) hh hr w.drew rfl) (by omega) (by omega) (by rw [hib]; exact b3)
   rw [hzz, apf_cells (grownCap_ge _ _ _ _)] at hrun
   refine new_atD (T := e) (c := .by [] (grownCap w (n + m) cap e * esz) (apf esz n m (sh f off) g)) hn hh rfl (v := .one (.sl H.length 0 (n + m) (grownCap w (n + m) cap e))) (by simp [Sv.lt, At.lt]) hgrow (x := .slice (some ⟨w.heap.size, 0, none⟩) (n + m) (grownCap w (n + m) cap e)) (by simp [renS, ren, setAt_same]) (app_exec ho hcal hargs htys ?_)
   rw [e1, e2]; exact hrun
 ·obtain ⟨m, g, hr, ⟨b1, b2, b3⟩, hgrow⟩ := hap
  replace hgrow := fun c hc => hR _ _ (hgrow c hc)
  obtain ⟨e1, l1⟩ := chkAr_sound c1 hf he1
  obtain ⟨e2, -⟩ := chkAr_sound c2 hf he2
  simp only [renS] at e2
  have hgrow := hgrow (grownCap w (0 + m) 0 e) (by have := grownCap_ge w (0 + m) 0 e; omega)
  have hold : (Builtin.firstCells i.size 0 (.slice none 0 0)).run P w.drew = .ok (cellsOf [] (0 * esz) (fun _ => 0)) w.drew := by
   simp [Builtin.firstCells, cellsOf]
  have hrun := run_append_new (P := P) (ty := o.type) hu hi hz hold (rdB_len (P := P) (ρ := ρ) (σ := σ) (w := w) hr) (by rw [his]; exact rdB_cells (P := P) hh hr w.drew rfl) (by omega) (by omega) (by rw [hib, Nat.zero_add]; exact b2)
  rw [hzz, apf_cells (grownCap_ge _ _ _ _)] at hrun
  refine new_atD (T := e) (c := .by [] (grownCap w (0 + m) 0 e * esz) (apf esz 0 m (fun _ => 0) g)) hn hh rfl (v := .one (.sl H.length 0 m (grownCap w (0 + m) 0 e))) (by simp [Sv.lt, At.lt]) hgrow (x := .slice (some ⟨w.heap.size, 0, none⟩) (0 + m) (grownCap w (0 + m) 0 e)) (by simp [renS, ren, setAt_same]) (app_exec ho hcal hargs htys ?_)
  rw [e1, e2]; exact hrun
 ·exact hap.elim

theorem e_apr {z : C1} {bytes : Nat} {x y : Ar} (hc : chkQ P ρ o.op (.apr z bytes x y) = true) (hf : FRel ρ σ a.tmps fr H.length) (hh : HRel ρ σ w H) (hv : vopE P ρ fr H (.apr z bytes x y) K) (hn : Nx ρ σ H w o a K next) : o.wp P a w next Q := by
 simp only [chkQ] at hc
 obtain ⟨c, u, v, t, e, ho, hcal, hargs, htys, c1, c2, hu, hk⟩ := chkApp_spec hc
 simp only [Bool.and_eq_true, beq_iff_eq] at hk
 obtain ⟨⟨hs, hb⟩, hz0⟩ := hk
 obtain ⟨i, hi, hz⟩ := zero1_sound hz0
 have his := info_size hi hs
 have hib := info_bytes hi hb
 have hzz : ∀ d, Builtin.zeroCells (renC z).cells d = ((List.replicate d z.at).map (ren ρ σ)).toArray := by
  intro d
  have := made_one d (renC z) (renC_cells z)
  unfold Builtin.zeroCells
  rw [List.map_replicate, ren_at, ← this]
  rw [renC_cells]
  rfl
 have hcell : ∀ L : List At, (∀ b ∈ L, b.lt H.length = true ∧ b.cell1 = true) → ∀ u ∈ (L.map (ren ρ σ)).toArray.toList, u.oneCell' = true := by
  intro L hL u hu
  obtain ⟨b, hb, rfl⟩ := List.mem_map.1 hu
  exact (ren_one (hL b hb).2).1
 have hzlt : ∀ b : At, b = z.at → b.lt H.length = true ∧ b.cell1 = true := by
  rintro b rfl
  cases z <;> exact ⟨rfl, rfl⟩
 simp only [vopE] at hv
 split at hv
 rotate_left
 ·exact hv.elim
 rename_i ax ay he1 he2
 obtain ⟨R, hap, hR⟩ := hv
 unfold apR at hap
 split at hap
 ·rename_i k off n cap
  obtain ⟨L, l, hr, hk, ⟨b1, b2, b3, b4⟩, hroom, hgrow⟩ := hap
  replace hroom := fun h => hR _ _ (hroom h)
  replace hgrow := fun h c hc => hR _ _ (hgrow h c hc)
  obtain ⟨e1, l1⟩ := chkAr_sound c1 hf he1
  obtain ⟨e2, -⟩ := chkAr_sound c2 hf he2
  simp only [renS] at e2
  obtain ⟨T, hT⟩ := blk_of hh hk
  have hLlt := rdR_lt hh hr
  have hl := hh.clo _ _ hk
  simp only [Bk.lt, List.all_eq_true, Bool.and_eq_true] at hl
  by_cases hcap : n + L.length ≤ cap
  ·have hroom := hroom hcap
   have hrun := run_append_room (P := P) (ty := o.type) (m := L.length) (n := n) (off := off) (cap := cap) hu hs hT (rdR_len (P := P) (ρ := ρ) (σ := σ) (w := w) hr) (rdR_cells (P := P) hh hr w rfl) (by simp) (by simp [cellsB]; omega) (hcell L hLlt) hcap
   have hcs : ((cellsB ρ σ (.rw l)).toList.take (off + n * 1) ++ (L.map (ren ρ σ)).toArray.toList ++ (cellsB ρ σ (.rw l)).toList.drop (off + n * 1 + (L.map (ren ρ σ)).toArray.size)).toArray = cellsB ρ σ (.rw (l.take (off + n) ++ L ++ l.drop (off + n + L.length))) := by
    simp [cellsB, List.map_take, List.map_drop]
   rw [hcs] at hrun
   have hrun' := (show (Builtin.append_ #[t, t] o.type #[a.eval u, a.eval v]).run P w = (Builtin.append_ #[t, t] o.type #[ren ρ σ (.sl k off n cap), ren ρ σ ay]).run P w by rw [e1, e2]; rfl).trans hrun
   refine value_wp (app_exec ho hcal hargs htys hrun') ?_
   ·refine hn (.one (.sl k off (n + L.length) cap)) _ σ _ hroom (Sp_store hh hk (c := .rw _) ?_) (by simpa [Sv.lt, At.lt] using l1)
    simp only [Bk.lt, List.all_eq_true, Bool.and_eq_true, List.mem_append]
    rintro b ((hb | hb) | hb)
    ·exact hl b (List.mem_of_mem_take hb)
    ·exact hLlt b hb
    ·exact hl b (List.mem_of_mem_drop hb)
  ·have hgrow := hgrow (by omega) (grownCap w (n + L.length) cap e) (grownCap_ge _ _ _ _)
   have hold : (Builtin.firstCells i.size n (.slice (some ⟨σ k, off, none⟩) n cap)).run P w.drew = .ok (((l.drop off).take n).map (ren ρ σ)).toArray w.drew := by
    rw [his]
    have hlen : ((l.drop off).take n).length = n := by simp; omega
    have := rdR_cells (P := P) (ρ := ρ) (σ := σ) (w := w) (L := (l.drop off).take n) (ay := .sl k off n cap) hh ⟨_, l, hk, by omega, rfl⟩ w.drew rfl
    rw [hlen] at this
    exact this
   have hrun := run_append_new (P := P) (ty := o.type) hu hi hz hold (rdR_len (P := P) (ρ := ρ) (σ := σ) (w := w) hr) (by rw [his]; exact rdR_cells (P := P) hh hr w.drew rfl) (by omega) (by omega) (by rw [hib]; exact b3)
   rw [hzz] at hrun
   refine new_atD (T := e) (c := .rw ((l.drop off).take n ++ L ++ List.replicate (grownCap w (n + L.length) cap e - (n + L.length)) z.at)) hn hh ?_ (v := .one (.sl H.length 0 (n + L.length) (grownCap w (n + L.length) cap e))) (by simp [Sv.lt, At.lt]) hgrow (x := .slice (some ⟨w.heap.size, 0, none⟩) (n + L.length) (grownCap w (n + L.length) cap e)) (by simp [renS, ren, setAt_same]) (app_exec ho hcal hargs htys ?_)
   ·simp only [Bk.lt, List.all_eq_true, Bool.and_eq_true, List.mem_append]
    rintro b ((hb | hb) | hb)
    ·exact hl b (List.mem_of_mem_drop (List.mem_of_mem_take hb))
    ·exact hLlt b hb
    ·exact hzlt b (List.mem_replicate.1 hb).2
   ·have hrun' := (show (Builtin.append_ #[t, t] o.type #[a.eval u, a.eval v]).run P w = (Builtin.append_ #[t, t] o.type #[.slice (some ⟨σ k, off, none⟩) n cap, ren ρ σ ay]).run P w by rw [e1, e2]; rfl).trans hrun
    rw [hrun']
    simp [cellsB]
    congr 2
    apply Array.ext'
    simp
 ·obtain ⟨L, hr, ⟨b1, b2, b3⟩, hgrow⟩ := hap
  replace hgrow := fun c hc => hR _ _ (hgrow c hc)
  obtain ⟨e1, l1⟩ := chkAr_sound c1 hf he1
  obtain ⟨e2, -⟩ := chkAr_sound c2 hf he2
  simp only [renS] at e2
  have hLlt := rdR_lt hh hr
  have hgrow := hgrow (grownCap w (0 + L.length) 0 e) (by have := grownCap_ge w (0 + L.length) 0 e; omega)
  have hold : (Builtin.firstCells i.size 0 (.slice none 0 0)).run P w.drew = .ok #[] w.drew := by
   simp [Builtin.firstCells]
  have hrun := run_append_new (P := P) (ty := o.type) hu hi hz hold (rdR_len (P := P) (ρ := ρ) (σ := σ) (w := w) hr) (by rw [his]; exact rdR_cells (P := P) hh hr w.drew rfl) (by omega) (by omega) (by rw [hib, Nat.zero_add]; exact b2)
  rw [hzz] at hrun
  refine new_atD (T := e) (c := .rw (L ++ List.replicate (grownCap w (0 + L.length) 0 e - L.length) z.at)) hn hh ?_ (v := .one (.sl H.length 0 L.length (grownCap w (0 + L.length) 0 e))) (by simp [Sv.lt, At.lt]) hgrow (x := .slice (some ⟨w.heap.size, 0, none⟩) (0 + L.length) (grownCap w (0 + L.length) 0 e)) (by simp [renS, ren, setAt_same]) (app_exec ho hcal hargs htys ?_)
  ·simp only [Bk.lt, List.all_eq_true, Bool.and_eq_true, List.mem_append]
   rintro b (hb | hb)
   ·exact hLlt b hb
   ·exact hzlt b (List.mem_replicate.1 hb).2
  ·have hrun' := (show (Builtin.append_ #[t, t] o.type #[a.eval u, a.eval v]).run P w = (Builtin.append_ #[t, t] o.type #[.slice none 0 0, ren ρ σ ay]).run P w by rw [e1, e2]; rfl).trans hrun
   rw [hrun']
   simp [cellsB]
   congr 2
   apply Array.ext'
   simp
 ·exact hap.elim

theorem qop_sound {p : QO} (hfn : ∀ f, fnOk P (ρ f) = true) (hc : chkQ P ρ o.op p = true) (hf : FRel ρ σ a.tmps fr H.length) (hh : HRel ρ σ w H) (hv : vopE P ρ fr H p K) (hn : Nx ρ σ H w o a K next) : o.wp P a w next Q := by
  cases p with
  | o p => exact op_sound hfn hc hf hh hv hn
  | lda x h n => exact e_lda hc hf hh hv hn
  | ldf x n => exact e_ldf hc hf hh hv hn
  | ld1 x => exact e_ld1 hc hf hh hv hn
  | sta x v n => exact e_sta hc hf hh hv hn
  | st1 x v => exact e_st1 hc hf hh hv hn
  | call f as => exact e_call hc hf hh hv hn
  | calp f as => exact e_calp hc hf hh hv hn
  | calv x as => exact e_calv hfn hc hf hh hv hn
  | len x => exact e_len hc hf hh hv hn
  | ids x i e => exact e_ids hc hf hh hv hn
  | apb e b x y => exact e_apb hc hf hh hv hn
  | apr z b x y => exact e_apr hc hf hh hv hn
  | mkb e b x => exact e_mkb hc hf hh hv hn
  | mkr z b x => exact e_mkr hc hf hh hv hn
  | bsy xs => exact e_bsy hc hf hh hv hn
  | sla x lo hi n e => exact e_sla hc hf hh hv hn
  | slc x lo hi e => exact e_slc hc hf hh hv hn
  | sap x n => exact e_sap hc hf hh hv hn
  | bac z ps => exact e_bac hc hf hh hv hn
  | bxc x => exact e_bxc hc hf hh hv hn
  | alc z => exact e_alc hc hh hv hn
  | bnu op x y => exact e_bnu hc hf hh hv hn
  | cvu x => exact e_cvu hc hf hh hv hn
  | mxm mn x y => exact e_mxm hc hf hh hv hn
  | brc z ps => exact e_brc hc hf hh hv hn
  | bxr x => exact e_bxr hc hf hh hv hn
  | eqs neg h n fs x y => exact e_eqs hc hf hh hv hn
  | fld x off n => exact e_fld hc hf hh hv hn
end
end Hf
/- The second layer, part 4: regions. -/
namespace Hf
open Go
structure QI where
 d : Option Nat
 g : Option (Nat × Bool)
 op : QO
 deriving Inhabited

def kept (H H' : List Blk) : List Nat → Prop
  | [] => True
  | k :: r => H'[k]? = H[k]? ∧ kept H H' r
def keptK (heap : Bool) (H H' : List Blk) (rd : List Nat) (R : Prop) : Prop := match heap, rd with
  | true, k :: r => kept H H' (k :: r) ∧ R
  | _, _ => R
def rdA (t : Bool) (l rd : List Nat) : List Nat := match t with
  | true => l ++ rd
  | false => rd

section
variable (P : Program) (ρ : Nat → FuncId)
/-- one operation of a region -/
def qstep (p : QI) (st : St) (K : St → Prop) : Prop := match p, st with
  | ⟨d, none, op⟩, ⟨fr, hp⟩ => vopE P ρ fr hp op fun v H' => K ⟨push d v fr, H'⟩
  | ⟨d, some (s, b), op⟩, ⟨fr, hp⟩ => match lk fr s with
      | some (.one (.b g)) => brB g fun g' => gdo (g' == b) (vopE P ρ ((s, .one (.b g')) :: fr) hp op) d ((s, .one (.b g')) :: fr) hp fun fr' hp' => K ⟨fr', hp'⟩
      | some (.tup _) => K ⟨push d (.tup []) fr, hp⟩
      | _ => False
noncomputable def qreg (l : List QI) : St → (St → Prop) → Prop :=
 List.rec (motive := fun _ => St → (St → Prop) → Prop) (fun st Q => Q st) (fun p _ ih st Q => qstep P ρ p st fun st' => ih st' Q) l
/-- one operation of a region whose order Go leaves open -/
def sstep (p : Nat × Bool × QI) (rd : List Nat) (st : St) (K : List Nat → St → Prop) : Prop := match p, st with
  | (_, t, ⟨d, none, op⟩), ⟨fr, hp⟩ => vopE P ρ fr hp op fun v H' => keptK (op.heap && !t) hp H' rd (K (rdA t (op.rd fr) rd) ⟨push d v fr, H'⟩)
  | (_, t, ⟨d, some (s, b), op⟩), ⟨fr, hp⟩ => match lk fr s with
      | some (.one (.b g)) => brB g fun g' => match g' == b with
        | true => vopE P ρ ((s, .one (.b g')) :: fr) hp op fun v H' => keptK (op.heap && !t) hp H' rd (K (rdA t (op.rd ((s, .one (.b g')) :: fr)) rd) ⟨push d v ((s, .one (.b g')) :: fr), H'⟩)
        | false => K rd ⟨push d (.tup []) ((s, .one (.b g')) :: fr), hp⟩
      | some (.tup _) => K rd ⟨push d (.tup []) fr, hp⟩
      | _ => False
noncomputable def sreg (l : List (Nat × Bool × QI)) : List Nat → St → (List Nat → St → Prop) → Prop :=
 List.rec (motive := fun _ => List Nat → St → (List Nat → St → Prop) → Prop) (fun rd st Q => Q rd st) (fun p _ ih rd st Q => sstep P ρ p rd st fun rd' st' => ih rd' st' Q) l
end
/-! ### an operation and what it hangs on -/
section
variable {P : Program} {ρ : Nat → FuncId} {H H' : List Blk} {fr fr' : List (Nat × Sv)} {K K' : Sv → List Blk → Prop}
theorem layC_congr {K : Sv → Prop} : ∀ {ps : List (Nat × Nat × Ar)} {l : List C1}, (∀ s ∈ slP ps, lk fr s = lk fr' s) → layC fr K ps l → layC fr' K ps l
  | [], _, _, h => h
  | (off, sz, x) :: r, l, hs, h => by
    simp only [slP, List.mem_append] at hs
    simp only [layC] at h ⊢
    rw [← ev_congr (x := x) fun s hx => hs s (.inl hx)]
    split at h
    · split at h
      · rename_i hb; (try rw [hb]); exact layC_congr (fun s hx => hs s (.inr hx)) h
      · exact h.elim
    · split at h
      · rename_i hb; (try rw [hb]); exact layC_congr (fun s hx => hs s (.inr hx)) h
      · exact h.elim
    · exact h.elim
theorem layC_wit : ∀ {ps : List (Nat × Nat × Ar)} {l : List C1} {K : Sv → Prop}, layC fr K ps l → ∃ v, K v ∧ ∀ K' : Sv → Prop, K' v → layC fr K' ps l
  | [], _, _, h => ⟨_, h, fun _ h => h⟩
  | (off, sz, x) :: r, l, K, h => by
    simp only [layC] at h ⊢
    split at h
    · split at h
      · rename_i hb; (try rw [hb]); exact layC_wit h
      · exact h.elim
    · split at h
      · rename_i hb; (try rw [hb]); exact layC_wit h
      · exact h.elim
    · exact h.elim

theorem layR_congr {K : Sv → Prop} : ∀ {ps : List (Nat × Nat × Ar)} {l : List At}, (∀ s ∈ slP ps, lk fr s = lk fr' s) → layR fr K ps l → layR fr' K ps l
  | [], _, _, h => h
  | (off, sz, x) :: r, l, hs, h => by
    simp only [slP, List.mem_append] at hs
    simp only [layR] at h ⊢
    rw [← ev_congr (x := x) fun s hx => hs s (.inl hx)]
    split at h
    · split at h
      · rename_i hb; (try rw [hb]); exact ⟨h.1, layR_congr (fun s hx => hs s (.inr hx)) h.2⟩
      · exact h.elim
    · exact h.elim
theorem layR_wit : ∀ {ps : List (Nat × Nat × Ar)} {l : List At} {K : Sv → Prop}, layR fr K ps l → ∃ v, K v ∧ ∀ K' : Sv → Prop, K' v → layR fr K' ps l
  | [], _, _, h => ⟨_, h, fun _ h => h⟩
  | (off, sz, x) :: r, l, K, h => by
    simp only [layR] at h ⊢
    split at h
    · split at h
      · rename_i hb; (try rw [hb]); obtain ⟨v, h1, h2⟩ := layR_wit h.2; exact ⟨v, h1, fun K' q => ⟨h.1, h2 K' q⟩⟩
      · exact h.elim
    · exact h.elim

theorem vop_mono {p : PO} (h : ∀ v H', K v H' → K' v H') (hv : vop P ρ fr H p K) : vop P ρ fr H p K' := by
 obtain ⟨v, H1, h1, h2⟩ := vop_wit hv
 exact h2 K' (h _ _ h1)

theorem vopE_mono {q : QO} (h : ∀ v H', K v H' → K' v H') (hv : vopE P ρ fr H q K) : vopE P ρ fr H q K' := by
  cases q with
  | o p => exact vop_mono h hv
  | lda x hh n =>
    simp only [vopE] at hv ⊢
    split at hv
    · split at hv
      · obtain ⟨r, hd, N, f, g, e1, e2, e4, e3⟩ := hv; exact ⟨r, hd, N, f, g, e1, e2, e4, h _ _ e3⟩
      · rcases hv with ⟨r, hd, N, f, e1, e2, e3⟩ | ⟨r, hd, N, e1, e2, e3⟩
        · exact .inl ⟨r, hd, N, f, e1, e2, h _ _ e3⟩
        · exact .inr ⟨r, hd, N, e1, e2, h _ _ e3⟩
    · exact hv.elim
  | ldf x n =>
    simp only [vopE] at hv ⊢
    split at hv
    · obtain ⟨r, cs, fz, g, e1, e2, e3⟩ := hv; exact ⟨r, cs, fz, g, e1, e2, h _ _ e3⟩
    · exact hv.elim
  | ld1 x =>
    simp only [vopE] at hv ⊢
    split at hv
    · obtain ⟨B, a, e1, e2, e3⟩ := hv; exact ⟨B, a, e1, e2, h _ _ e3⟩
    · exact hv.elim
  | sta x v n =>
    simp only [vopE] at hv ⊢
    split at hv
    · obtain ⟨B, a, b, e1, e2, e4, e3⟩ := hv; exact ⟨B, a, b, e1, e2, e4, h _ _ e3⟩
    · exact hv.elim
  | st1 x v =>
    simp only [vopE] at hv ⊢
    split at hv
    · obtain ⟨B, a, b, e1, e2, e4, e3⟩ := hv; exact ⟨B, a, b, e1, e2, e4, h _ _ e3⟩
    · exact hv.elim
  | call f as =>
    simp only [vopE] at hv ⊢
    split at hv
    · obtain ⟨Q, e1, e2⟩ := hv; exact ⟨Q, e1, fun v G hq => h _ _ (e2 v G hq)⟩
    · exact hv.elim
  | calp f as =>
    simp only [vopE] at hv ⊢
    split at hv
    · obtain ⟨v, e1, e2, e3⟩ := hv; exact ⟨v, e1, e2, h _ _ e3⟩
    · exact hv.elim
  | calv x as =>
    simp only [vopE] at hv ⊢
    split at hv
    · obtain ⟨Q, e1, e2⟩ := hv; exact ⟨Q, e1, fun v G hq => h _ _ (e2 v G hq)⟩
    · exact hv.elim
  | len x =>
    simp only [vopE] at hv ⊢
    split at hv
    · obtain ⟨n, e1, e2⟩ := hv; exact ⟨n, e1, h _ _ e2⟩
    · exact hv.elim
  | ids x i e =>
    simp only [vopE] at hv ⊢
    split at hv
    · obtain ⟨k, off, len, cap, x, q, e1, e2, e3, e4, e5⟩ := hv; exact ⟨k, off, len, cap, x, q, e1, e2, e3, e4, h _ _ e5⟩
    · exact hv.elim
  | apb e b x y =>
    simp only [vopE] at hv ⊢
    split at hv
    · obtain ⟨R, e1, e2⟩ := hv; exact ⟨R, e1, fun a G hq => h _ _ (e2 a G hq)⟩
    · exact hv.elim
  | apr z b x y =>
    simp only [vopE] at hv ⊢
    split at hv
    · obtain ⟨R, e1, e2⟩ := hv; exact ⟨R, e1, fun a G hq => h _ _ (e2 a G hq)⟩
    · exact hv.elim
  | mkb e b x =>
    simp only [vopE] at hv ⊢
    split at hv
    · obtain ⟨n, m, e1, e2, e3⟩ := hv; exact ⟨n, m, e1, e2, h _ _ e3⟩
    · exact hv.elim
  | mkr z b x =>
    simp only [vopE] at hv ⊢
    split at hv
    · obtain ⟨n, m, e1, e2, e3⟩ := hv; exact ⟨n, m, e1, e2, h _ _ e3⟩
    · exact hv.elim
  | bsy xs =>
    simp only [vopE] at hv ⊢
    split at hv
    · obtain ⟨n, m, e1, e2, e3⟩ := hv; exact ⟨n, m, e1, e2, h _ _ e3⟩
    · exact hv.elim
  | sla x lo hi n e =>
    simp only [vopE] at hv ⊢
    split at hv
    · split at hv
      · obtain ⟨a, b, e1, e2, e3, e4⟩ := hv; exact ⟨a, b, e1, e2, e3, h _ _ e4⟩
      · exact hv.elim
    · exact hv.elim
  | slc x lo hi e =>
    simp only [vopE] at hv ⊢
    split at hv
    · split at hv
      · obtain ⟨a, b, e1, e2, e3, e4⟩ := hv; exact ⟨a, b, e1, e2, e3, h _ _ e4⟩
      · exact hv.elim
    · split at hv
      · exact ⟨hv.1, h _ _ hv.2⟩
      · exact hv.elim
    · exact hv.elim
  | sap x n =>
    simp only [vopE] at hv ⊢
    split at hv
    · exact ⟨hv.1, h _ _ hv.2⟩
    · exact hv.elim
  | bac z ps =>
    obtain ⟨v, h1, h2⟩ := layC_wit hv
    exact h2 _ (h _ _ h1)
  | bxc x =>
    simp only [vopE] at hv ⊢
    split at hv
    · obtain ⟨m, e1, e2⟩ := hv; exact ⟨m, e1, h _ _ e2⟩
    · exact hv.elim
  | alc z => obtain ⟨m, e1, e2⟩ := hv; exact ⟨m, e1, h _ _ e2⟩
  | bnu op x y =>
    simp only [vopE] at hv ⊢
    split at hv
    · obtain ⟨n, e1, e2⟩ := hv; exact ⟨n, e1, h _ _ e2⟩
    · exact hv.elim
  | cvu x =>
    simp only [vopE] at hv ⊢
    split at hv
    · obtain ⟨n, e1, e2⟩ := hv; exact ⟨n, e1, h _ _ e2⟩
    · exact h _ _ hv
    · exact hv.elim
  | mxm mn x y =>
    simp only [vopE] at hv ⊢
    split at hv
    · obtain ⟨n, e1, e2⟩ := hv; exact ⟨n, e1, h _ _ e2⟩
    · exact hv.elim
  | brc z ps =>
    obtain ⟨v, h1, h2⟩ := layR_wit hv
    exact h2 _ (h _ _ h1)
  | bxr x =>
    simp only [vopE] at hv ⊢
    split at hv
    · obtain ⟨m, e1, e3, e2⟩ := hv; exact ⟨m, e1, e3, h _ _ e2⟩
    · exact hv.elim
  | eqs neg hh n fs x y =>
    simp only [vopE] at hv ⊢
    split at hv
    · split at hv
      · obtain ⟨b, e1, e2⟩ := hv; exact ⟨b, e1, h _ _ e2⟩
      · exact hv.elim
    · exact hv.elim
  | fld x off n =>
    simp only [vopE] at hv ⊢
    split at hv
    · exact ⟨hv.1, h _ _ hv.2⟩
    · exact hv.elim

theorem vopE_congr {q : QO} (h : ∀ s ∈ q.sl, lk fr s = lk fr' s) (hv : vopE P ρ fr H q K) : vopE P ρ fr' H q K := by
  cases q with
  | o p => exact vop_congr h hv
  | lda x hh n => simp only [vopE] at *; rw [← ev_congr h]; exact hv
  | ldf x n => simp only [vopE] at *; rw [← ev_congr h]; exact hv
  | ld1 x => simp only [vopE] at *; rw [← ev_congr h]; exact hv
  | sta x v n =>
    simp only [QO.sl, List.mem_append] at h
    simp only [vopE] at *
    rw [← ev_congr (x := x) fun s hs => h s (.inl hs), ← ev_congr (x := v) fun s hs => h s (.inr hs)]; exact hv
  | st1 x v =>
    simp only [QO.sl, List.mem_append] at h
    simp only [vopE] at *
    rw [← ev_congr (x := x) fun s hs => h s (.inl hs), ← ev_congr (x := v) fun s hs => h s (.inr hs)]; exact hv
  | call f as => simp only [vopE] at *; rw [← evs_congr h]; exact hv
  | calp f as => simp only [vopE] at *; rw [← evs_congr h]; exact hv
  | calv x as =>
    simp only [QO.sl, List.mem_append] at h
    simp only [vopE] at *
    rw [← ev_congr (x := x) fun s hs => h s (.inl hs), ← evs_congr (xs := as) fun s hs => h s (.inr hs)]; exact hv
  | len x => simp only [vopE] at *; rw [← ev_congr h]; exact hv
  | ids x i e =>
    simp only [QO.sl, List.mem_append] at h
    simp only [vopE] at *
    rw [← ev_congr (x := x) fun s hs => h s (.inl hs), ← ev_congr (x := i) fun s hs => h s (.inr hs)]; exact hv
  | apb e b x y =>
    simp only [QO.sl, List.mem_append] at h
    simp only [vopE] at *
    rw [← ev_congr (x := x) fun s hs => h s (.inl hs), ← ev_congr (x := y) fun s hs => h s (.inr hs)]; exact hv
  | apr z b x y =>
    simp only [QO.sl, List.mem_append] at h
    simp only [vopE] at *
    rw [← ev_congr (x := x) fun s hs => h s (.inl hs), ← ev_congr (x := y) fun s hs => h s (.inr hs)]; exact hv
  | mkb e b x => simp only [vopE] at *; rw [← ev_congr h]; exact hv
  | mkr z b x => simp only [vopE] at *; rw [← ev_congr h]; exact hv
  | bsy xs => simp only [vopE] at *; rw [← evs_congr h]; exact hv
  | sla x lo hi n e =>
    simp only [QO.sl, List.mem_append] at h
    simp only [vopE] at *
    rw [← ev_congr (x := x) fun s hs => h s (.inl (.inl hs))]
    split at hv
    · rw [← evo_congr (x := lo) fun s hs => h s (.inl (.inr hs)), ← evo_congr (x := hi) fun s hs => h s (.inr hs)]; exact hv
    · exact hv
  | slc x lo hi e =>
    simp only [QO.sl, List.mem_append] at h
    simp only [vopE] at *
    rw [← ev_congr (x := x) fun s hs => h s (.inl (.inl hs))]
    split at hv
    · rw [← evo_congr (x := lo) fun s hs => h s (.inl (.inr hs)), ← evo_congr (x := hi) fun s hs => h s (.inr hs)]; exact hv
    · rw [← evo_congr (x := lo) fun s hs => h s (.inl (.inr hs)), ← evo_congr (x := hi) fun s hs => h s (.inr hs)]; exact hv
    · exact hv
  | sap x n => simp only [vopE] at *; rw [← ev_congr h]; exact hv
  | bac z ps => exact layC_congr h hv
  | bxc x => simp only [vopE] at *; rw [← ev_congr h]; exact hv
  | alc z => exact hv
  | bnu op x y =>
    simp only [QO.sl, List.mem_append] at h
    simp only [vopE] at *
    rw [← ev_congr (x := x) fun s hs => h s (.inl hs), ← ev_congr (x := y) fun s hs => h s (.inr hs)]; exact hv
  | cvu x => simp only [vopE] at *; rw [← ev_congr h]; exact hv
  | mxm mn x y =>
    simp only [QO.sl, List.mem_append] at h
    simp only [vopE] at *
    rw [← ev_congr (x := x) fun s hs => h s (.inl hs), ← ev_congr (x := y) fun s hs => h s (.inr hs)]; exact hv
  | brc z ps => exact layR_congr h hv
  | bxr x => simp only [vopE] at *; rw [← ev_congr h]; exact hv
  | eqs neg hh n fs x y =>
    simp only [QO.sl, List.mem_append] at h
    simp only [vopE] at *
    rw [← ev_congr (x := x) fun s hs => h s (.inl hs), ← ev_congr (x := y) fun s hs => h s (.inr hs)]; exact hv
  | fld x off n => simp only [vopE] at *; rw [← ev_congr h]; exact hv

theorem rd_congr {q : QO} (h : ∀ s ∈ q.sl, lk fr s = lk fr' s) : q.rd fr = q.rd fr' := by
  cases q with
  | o p =>
    cases p with
    | lda x _ _ => simp only [QO.rd]; rw [ev_congr h]
    | ld8 x => simp only [QO.rd]; rw [ev_congr h]
    | ld1 x => simp only [QO.rd]; rw [ev_congr h]
    | _ => rfl
  | lda x _ _ => simp only [QO.rd]; rw [ev_congr h]
  | ldf x _ => simp only [QO.rd]; rw [ev_congr h]
  | ld1 x => simp only [QO.rd]; rw [ev_congr h]
  | _ => rfl
theorem rd_load {q : QO} (h : q.load = false) : q.rd fr = [] := by
  cases q with
  | o p => cases p <;> first | rfl | cases h
  | lda x _ _ => cases h
  | ldf x _ => cases h
  | ld1 x => cases h
  | _ => rfl

/-- what leaves the blocks as they are yields one value -/
theorem pureE {q : QO} (hq : q.heap = false) (hv : vopE P ρ fr H q K) : ∃ v, K v H ∧ ∀ K' : Sv → List Blk → Prop, K' v H → vopE P ρ fr H q K' := by
  cases q with
  | o p => exact pure_heap (by simpa [QO.heap] using hq) hv
  | lda x hh n =>
    simp only [vopE] at hv ⊢
    split at hv
    · split at hv
      · obtain ⟨r, hd, N, f, g, e1, e2, e4, e3⟩ := hv; exact ⟨_, e3, fun _ h => ⟨r, hd, N, f, g, e1, e2, e4, h⟩⟩
      · rcases hv with ⟨r, hd, N, f, e1, e2, e3⟩ | ⟨r, hd, N, e1, e2, e3⟩
        · exact ⟨_, e3, fun _ h => .inl ⟨r, hd, N, f, e1, e2, h⟩⟩
        · exact ⟨_, e3, fun _ h => .inr ⟨r, hd, N, e1, e2, h⟩⟩
    · exact hv.elim
  | ldf x n =>
    simp only [vopE] at hv ⊢
    split at hv
    · obtain ⟨r, cs, fz, g, e1, e2, e3⟩ := hv; exact ⟨_, e3, fun _ h => ⟨r, cs, fz, g, e1, e2, h⟩⟩
    · exact hv.elim
  | ld1 x =>
    simp only [vopE] at hv ⊢
    split at hv
    · obtain ⟨B, a, e1, e2, e3⟩ := hv; exact ⟨_, e3, fun _ h => ⟨B, a, e1, e2, h⟩⟩
    · exact hv.elim
  | len x =>
    simp only [vopE] at hv ⊢
    split at hv
    · obtain ⟨n, e1, e2⟩ := hv; exact ⟨_, e2, fun _ h => ⟨n, e1, h⟩⟩
    · exact hv.elim
  | ids x i e =>
    simp only [vopE] at hv ⊢
    split at hv
    · obtain ⟨k, off, len, cap, x, q, e1, e2, e3, e4, e5⟩ := hv; exact ⟨_, e5, fun _ h => ⟨k, off, len, cap, x, q, e1, e2, e3, e4, h⟩⟩
    · exact hv.elim
  | calp f as =>
    simp only [vopE] at hv ⊢
    split at hv
    · obtain ⟨v, e1, e2, e3⟩ := hv; exact ⟨_, e3, fun _ h => ⟨v, e1, e2, h⟩⟩
    · exact hv.elim
  | sla x lo hi n e =>
    simp only [vopE] at hv ⊢
    split at hv
    · split at hv
      · obtain ⟨a, b, e1, e2, e3, e4⟩ := hv; exact ⟨_, e4, fun _ h => ⟨a, b, e1, e2, e3, h⟩⟩
      · exact hv.elim
    · exact hv.elim
  | slc x lo hi e =>
    simp only [vopE] at hv ⊢
    split at hv
    · split at hv
      · obtain ⟨a, b, e1, e2, e3, e4⟩ := hv; exact ⟨_, e4, fun _ h => ⟨a, b, e1, e2, e3, h⟩⟩
      · exact hv.elim
    · split at hv
      · exact ⟨_, hv.2, fun _ h => ⟨hv.1, h⟩⟩
      · exact hv.elim
    · exact hv.elim
  | sap x n =>
    simp only [vopE] at hv ⊢
    split at hv
    · exact ⟨_, hv.2, fun _ h => ⟨hv.1, h⟩⟩
    · exact hv.elim
  | bac z ps =>
    obtain ⟨v, h1, h2⟩ := layC_wit hv
    exact ⟨v, h1, fun K' h => h2 _ h⟩
  | bnu op x y =>
    simp only [vopE] at hv ⊢
    split at hv
    · obtain ⟨n, e1, e2⟩ := hv; exact ⟨_, e2, fun _ h => ⟨n, e1, h⟩⟩
    · exact hv.elim
  | cvu x =>
    simp only [vopE] at hv ⊢
    split at hv
    · obtain ⟨n, e1, e2⟩ := hv; exact ⟨_, e2, fun _ h => ⟨n, e1, h⟩⟩
    · exact ⟨_, hv, fun _ h => h⟩
    · exact hv.elim
  | mxm mn x y =>
    simp only [vopE] at hv ⊢
    split at hv
    · obtain ⟨n, e1, e2⟩ := hv; exact ⟨_, e2, fun _ h => ⟨n, e1, h⟩⟩
    · exact hv.elim
  | brc z ps =>
    obtain ⟨v, h1, h2⟩ := layR_wit hv
    exact ⟨v, h1, fun K' h => h2 _ h⟩
  | eqs neg hh n fs x y =>
    simp only [vopE] at hv ⊢
    split at hv
    · split at hv
      · obtain ⟨b, e1, e2⟩ := hv; exact ⟨_, e2, fun _ h => ⟨b, e1, h⟩⟩
      · exact hv.elim
    · exact hv.elim
  | fld x off n =>
    simp only [vopE] at hv ⊢
    split at hv
    · exact ⟨_, hv.2, fun _ h => ⟨hv.1, h⟩⟩
    · exact hv.elim
  | _ => cases hq

/-- the same over other blocks, where those that are read are the same -/
theorem vop_move {p : PO} (hq : p.pure = true) (hk : ∀ k ∈ (QO.o p).rd fr, H'[k]? = H[k]?) {v : Sv} (hv : ∀ K' : Sv → List Blk → Prop, K' v H → vop P ρ fr H p K') (K' : Sv → List Blk → Prop) (h : K' v H') : vop P ρ fr H' p K' := by
  have hv := hv (fun u _ => K' u H') h
  cases p with
  | lda x hh n =>
    simp only [QO.rd, ptBlk] at hk
    simp only [vop] at hv ⊢
    split at hv
    · rename_i k off he
      rw [hk k (by simp [he])]
      split at hv
      · split at hv
        · exact hv
        · split at hv
          · split at hv
            · rename_i hb; (try rw [hb]); exact hv
            · exact hv.elim
          · exact hv.elim
      · exact hv
      · exact hv.elim
    · exact hv.elim
  | ld8 x =>
    simp only [QO.rd, ptBlk] at hk
    simp only [vop] at hv ⊢
    split at hv
    · rename_i k off he
      rw [hk k (by simp [he])]
      exact hv
    · exact hv.elim
  | ld1 x =>
    simp only [QO.rd, ptBlk] at hk
    simp only [vop] at hv ⊢
    split at hv
    · rename_i k off he
      rw [hk k (by simp [he])]
      exact hv
    · exact hv.elim
  | call f as => cases hq
  | calv x as => cases hq
  | bsb e xs => cases hq
  | bsh hh e xs => cases hq
  | alo z => cases hq
  | box z => cases hq
  | sta x v n => cases hq
  | st8 x v => cases hq
  | st1 x v => cases hq
  | bsa xs => cases hq
  | _ => exact hv

theorem vopE_move {q : QO} (hq : q.heap = false) (hk : ∀ k ∈ q.rd fr, H'[k]? = H[k]?) {v : Sv} (hv : ∀ K' : Sv → List Blk → Prop, K' v H → vopE P ρ fr H q K') (K' : Sv → List Blk → Prop) (h : K' v H') : vopE P ρ fr H' q K' := by
  cases q with
  | o p => exact vop_move (by simpa [QO.heap] using hq) hk hv K' h
  | lda x hh n =>
    have hv := hv (fun u _ => K' u H') h
    simp only [QO.rd, ptBlk] at hk
    simp only [vopE] at hv ⊢
    split at hv
    · rename_i k off he
      rw [hk k (by simp [he])]
      exact hv
    · exact hv.elim
  | ldf x n =>
    have hv := hv (fun u _ => K' u H') h
    simp only [QO.rd, ptBlk] at hk
    simp only [vopE] at hv ⊢
    split at hv
    · rename_i k off he
      rw [hk k (by simp [he])]
      exact hv
    · exact hv.elim
  | ld1 x =>
    have hv := hv (fun u _ => K' u H') h
    simp only [QO.rd, ptBlk] at hk
    simp only [vopE] at hv ⊢
    split at hv
    · rename_i k off he
      rw [hk k (by simp [he])]
      exact hv
    · exact hv.elim
  | len x => exact hv (fun u _ => K' u H') h
  | ids x i e => exact hv (fun u _ => K' u H') h
  | calp f as => exact hv (fun u _ => K' u H') h
  | sla x lo hi n e => exact hv (fun u _ => K' u H') h
  | slc x lo hi e => exact hv (fun u _ => K' u H') h
  | sap x n => exact hv (fun u _ => K' u H') h
  | bac z ps => exact hv (fun u _ => K' u H') h
  | bnu op x y => exact hv (fun u _ => K' u H') h
  | cvu x => exact hv (fun u _ => K' u H') h
  | mxm mn x y => exact hv (fun u _ => K' u H') h
  | brc z ps => exact hv (fun u _ => K' u H') h
  | eqs neg hh n fs x y => exact hv (fun u _ => K' u H') h
  | fld x off n => exact hv (fun u _ => K' u H') h
  | _ => cases hq
end
/-! ### a region whose order is open, without order in the slots -/
def mode (g : Option (Nat × Bool)) (fr : List (Nat × Sv)) : Option Bool := match g with
  | none => some true
  | some (s, b) => match lk fr s with
    | some (.one (.b g')) => some (g' == b)
    | some (.tup _) => some false
    | _ => none

abbrev SI := Nat × Bool × QI

section
variable (P : Program) (ρ : Nat → FuncId)
def XV (p : SI) (rd : List Nat) (fr : List (Nat × Sv)) (H : List Blk) (K : List Nat → List (Nat × Sv) → List Blk → Prop) : Prop := match mode p.2.2.g fr with
  | some true => vopE P ρ fr H p.2.2.op fun v H' => ((p.2.2.op.heap && !p.2.1) = true → kept H H' rd) ∧ K (rdA p.2.1 (p.2.2.op.rd fr) rd) (push p.2.2.d v fr) H'
  | some false => K rd (push p.2.2.d (.tup []) fr) H
  | none => False
def SV : List SI → List Nat → List (Nat × Sv) → List Blk → (List Nat → List (Nat × Sv) → List Blk → Prop) → Prop
  | [], rd, fr, H, C => C rd fr H
  | p :: r, rd, fr, H, C => XV P ρ p rd fr H fun rd' fr' H' => SV r rd' fr' H' C
end
/-- what goes on hangs on what stands in the slots alone -/
structure Cok (C : List Nat → List (Nat × Sv) → List Blk → Prop) : Prop where
 fr : ∀ {rd fr fr' H}, (∀ t, lk fr t = lk fr' t) → C rd fr H → C rd fr' H
 rd : ∀ {rd rd' fr H}, (∀ k ∈ rd', k ∈ rd) → C rd fr H → C rd' fr H
/-- a region's end -/
def lf (Q : St → Prop) (_ : List Nat) (fr : List (Nat × Sv)) (H : List Blk) : Prop := ∃ fr0, (∀ t, lk fr0 t = lk fr t) ∧ Q ⟨fr0, H⟩
theorem lf_ok {Q : St → Prop} : Cok (lf Q) := ⟨fun h ⟨fr0, h1, h2⟩ => ⟨fr0, fun t => (h1 t).trans (h t), h2⟩, fun _ h => h⟩

section
variable {P : Program} {ρ : Nat → FuncId} {H : List Blk} {fr fr' : List (Nat × Sv)} {C : List Nat → List (Nat × Sv) → List Blk → Prop}
theorem kept_mem {H H' : List Blk} : ∀ {rd : List Nat}, kept H H' rd ↔ ∀ k ∈ rd, H'[k]? = H[k]?
  | [] => by simp [kept]
  | k :: r => by simp [kept, kept_mem]

theorem mode_congr {g : Option (Nat × Bool)} (h : ∀ s ∈ guardSl g, lk fr s = lk fr' s) : mode g fr = mode g fr' := by
 rcases g with _ | ⟨s, b⟩
 ·rfl
 ·simp only [mode]; rw [h s (by simp [guardSl])]

theorem XV_mono {p : SI} {rd : List Nat} {K K' : List Nat → List (Nat × Sv) → List Blk → Prop} (h : ∀ rd fr H, K rd fr H → K' rd fr H) (hv : XV P ρ p rd fr H K) : XV P ρ p rd fr H K' := by
 unfold XV at hv ⊢
 split at hv
 ·exact vopE_mono (fun v H' hk => ⟨hk.1, h _ _ _ hk.2⟩) hv
 ·exact h _ _ _ hv
 ·exact hv

theorem lk_pushc {d : Option Nat} {v : Sv} (h : ∀ t, lk fr t = lk fr' t) (t : Nat) : lk (push d v fr) t = lk (push d v fr') t := by
 rw [lk_push, lk_push, h]

theorem SV_congr (hC : Cok C) : ∀ {ps : List SI} {rd : List Nat} {fr fr' : List (Nat × Sv)} {H : List Blk}, (∀ t, lk fr t = lk fr' t) → SV P ρ ps rd fr H C → SV P ρ ps rd fr' H C
  | [], _, fr, fr', H, h, hv => hC.fr h hv
  | p :: r, rd, fr, fr', H, h, hv => by
    simp only [SV] at hv ⊢
    unfold XV at hv ⊢
    rw [← mode_congr (fr := fr) (fr' := fr') fun s _ => h s, ← rd_congr (fr := fr) (fr' := fr') fun s _ => h s]
    split at hv
    · exact vopE_congr (fun s _ => h s) (vopE_mono (fun v H' hk => ⟨hk.1, SV_congr hC (lk_pushc h) hk.2⟩) hv)
    · exact SV_congr hC (lk_pushc h) hv
    · exact hv

theorem rdA_sub {t : Bool} {l rd rd' : List Nat} (h : ∀ k ∈ rd', k ∈ rd) : ∀ k ∈ rdA t l rd', k ∈ rdA t l rd := by
 cases t
 ·exact h
 ·intro k hk
  simp only [rdA, List.mem_append] at hk ⊢
  exact hk.imp id (h k)

theorem SV_rd (hC : Cok C) : ∀ {ps : List SI} {rd rd' : List Nat} {fr : List (Nat × Sv)} {H : List Blk}, (∀ k ∈ rd', k ∈ rd) → SV P ρ ps rd fr H C → SV P ρ ps rd' fr H C
  | [], _, _, _, _, h, hv => hC.rd h hv
  | p :: r, rd, rd', fr, H, h, hv => by
    simp only [SV] at hv ⊢
    unfold XV at hv ⊢
    split at hv
    · exact vopE_mono (fun v H' hk => ⟨fun e => kept_mem.2 fun k hm => kept_mem.1 (hk.1 e) k (h k hm), SV_rd hC (rdA_sub h) hk.2⟩) hv
    · exact SV_rd hC h hv
    · exact hv

theorem keptK_out {heap : Bool} {H H' : List Blk} {rd : List Nat} {R : Prop} (h : keptK heap H H' rd R) : (heap = true → kept H H' rd) ∧ R := by
  unfold keptK at h
  split at h
  · exact ⟨fun _ => h.1, h.2⟩
  · rename_i h1
    refine ⟨fun e => ?_, h⟩
    cases rd with
    | nil => trivial
    | cons k r => exact (h1 k r e rfl).elim

theorem sreg_SV (hC : Cok C) {Q : List Nat → St → Prop} (hQ : ∀ rd st, Q rd st → C rd st.fr st.hp) : ∀ {ps : List SI} {rd : List Nat} {st : St}, sreg P ρ ps rd st Q → SV P ρ ps rd st.fr st.hp C
  | [], _, st, hv => hQ _ _ hv
  | (i, t, ⟨d, g, op⟩) :: r, rd, ⟨fr, hp⟩, hv => by
    change sstep P ρ (i, t, ⟨d, g, op⟩) rd ⟨fr, hp⟩ (fun rd' st' => sreg P ρ r rd' st' Q) at hv
    simp only [SV]
    unfold XV
    rcases g with _ | ⟨s, b⟩
    · simp only [sstep] at hv
      simp only [mode]
      exact vopE_mono (fun v H' hk => ⟨(keptK_out hk).1, sreg_SV hC hQ (keptK_out hk).2⟩) hv
    · simp only [sstep] at hv
      split at hv
      · rename_i g hg
        replace hv := brB_elim hv
        simp only [mode, hg]
        have hfr : ∀ t, lk ((s, Sv.one (.b g)) :: fr) t = lk fr t := lk_dup hg
        split at hv
        · rename_i hgb
          rw [hgb]
          simp only
          refine vopE_congr (fun s _ => hfr s) (vopE_mono (fun v H' hk => ?_) hv)
          obtain ⟨k1, k2⟩ := keptK_out hk
          refine ⟨k1, ?_⟩
          have := sreg_SV hC hQ k2
          simp only at this
          rw [rd_congr (fr' := fr) fun s _ => hfr s] at this
          exact SV_congr hC (lk_pushc hfr) this
        · rename_i hgb
          rw [hgb]
          simp only
          exact SV_congr hC (lk_pushc hfr) (sreg_SV hC hQ hv)
      · rename_i l hl
        simp only [mode, hl]
        exact sreg_SV hC hQ hv
      · exact hv.elim

/-- y and x may change places -/
def indep (y x : QI) : Prop := (∀ s, y.d = some s → s ∉ x.op.sl ∧ s ∉ guardSl x.g) ∧ (∀ s, x.d = some s → s ∉ y.op.sl ∧ s ∉ guardSl y.g) ∧ (∀ s, y.d = some s → x.d ≠ some s)

theorem lk_push_ne {d : Option Nat} {v : Sv} {s : Nat} (h : d ≠ some s) : lk (push d v fr) s = lk fr s := by rw [lk_push, if_neg h]
theorem push_swap {d d' : Option Nat} {v v' : Sv} (h : ∀ s, d = some s → d' ≠ some s) (t : Nat) : lk (push d v (push d' v' fr)) t = lk (push d' v' (push d v fr)) t := by
 rw [lk_push, lk_push, lk_push, lk_push]
 by_cases h1 : d = some t
 ·rw [if_pos h1, if_neg (h t h1), if_pos h1]
 ·rw [if_neg h1, if_neg h1]
theorem push_out {d : Option Nat} {v : Sv} {l : List Nat} (h : ∀ s, d = some s → s ∉ l) : ∀ s ∈ l, lk (push d v fr) s = lk fr s :=
 fun s hs => lk_push_ne fun e => h s e hs

theorem rdA_swap {t t' : Bool} {l l' rd : List Nat} : ∀ k ∈ rdA t l (rdA t' l' rd), k ∈ rdA t' l' (rdA t l rd) := by
 intro k hk
 cases t <;> cases t' <;> simp only [rdA, List.mem_append] at hk ⊢ <;> first | exact hk | (rcases hk with h | h | h <;> simp [h])

theorem SV_swap (hC : Cok C) {y x : SI} {T : List SI} {rd : List Nat} (hy : y.2.2.op.heap = false) (hi : indep y.2.2 x.2.2) (hl : x.2.2.op.heap = true → y.2.2.op.load = true → y.2.1 = true ∧ x.2.1 = false)
    (hv : SV P ρ (y :: x :: T) rd fr H C) : SV P ρ (x :: y :: T) rd fr H C := by
  obtain ⟨i1, i2, i3⟩ := hi
  simp only [SV] at hv ⊢
  have mx : ∀ v, mode x.2.2.g (push y.2.2.d v fr) = mode x.2.2.g fr := fun v => mode_congr (push_out fun s h => (i1 s h).2)
  have my : ∀ v, mode y.2.2.g (push x.2.2.d v fr) = mode y.2.2.g fr := fun v => mode_congr (push_out fun s h => (i2 s h).2)
  have rx : ∀ v, x.2.2.op.rd (push y.2.2.d v fr) = x.2.2.op.rd fr := fun v => rd_congr (push_out fun s h => (i1 s h).1)
  have ry : ∀ v, y.2.2.op.rd (push x.2.2.d v fr) = y.2.2.op.rd fr := fun v => rd_congr (push_out fun s h => (i2 s h).1)
  have cx : ∀ {v K H}, vopE P ρ (push y.2.2.d v fr) H x.2.2.op K → vopE P ρ fr H x.2.2.op K := fun h => vopE_congr (push_out fun s h => (i1 s h).1) h
  have cy : ∀ {v K H}, vopE P ρ fr H y.2.2.op K → vopE P ρ (push x.2.2.d v fr) H y.2.2.op K := fun h => vopE_congr (fun s hs => (push_out (fun s h => (i2 s h).1) s hs).symm) h
  have sw : ∀ {v v' rd H}, SV P ρ T rd (push x.2.2.d v (push y.2.2.d v' fr)) H C → SV P ρ T rd (push y.2.2.d v' (push x.2.2.d v fr)) H C := fun h => SV_congr hC (fun t => (push_swap i3 t).symm) h
  unfold XV at hv ⊢
  cases hmy : mode y.2.2.g fr with
  | none => rw [hmy] at hv; exact hv.elim
  | some b =>
    cases b with
    | false =>
      rw [hmy] at hv
      simp only [mx, rx] at hv
      cases hmx : mode x.2.2.g fr with
      | none => rw [hmx] at hv; exact hv.elim
      | some c =>
        rw [hmx] at hv
        cases c with
        | true =>
          refine vopE_mono (fun v H' hk => ⟨hk.1, ?_⟩) (cx hv)
          simp only [my, hmy]
          exact sw hk.2
        | false =>
          simp only [my, hmy]
          exact sw hv
    | true =>
      rw [hmy] at hv
      simp only at hv
      obtain ⟨vy, ⟨-, hk⟩, hw⟩ := pureE hy hv
      simp only [mx, rx] at hk
      cases hmx : mode x.2.2.g fr with
      | none => rw [hmx] at hk; exact hk.elim
      | some c =>
        rw [hmx] at hk
        cases c with
        | false =>
          simp only [my, hmy]
          refine cy (hw _ ⟨fun e => absurd e (by simp [hy]), ?_⟩)
          rw [ry]
          exact sw hk
        | true =>
          have main : ∀ v H', (∀ k ∈ y.2.2.op.rd fr, H'[k]? = H[k]?) → SV P ρ T (rdA x.2.1 (x.2.2.op.rd fr) (rdA y.2.1 (y.2.2.op.rd fr) rd)) (push x.2.2.d v (push y.2.2.d vy fr)) H' C →
              (match mode y.2.2.g (push x.2.2.d v fr) with
                | some true => vopE P ρ (push x.2.2.d v fr) H' y.2.2.op fun v_1 H'_1 => ((y.2.2.op.heap && !y.2.1) = true → kept H' H'_1 (rdA x.2.1 (x.2.2.op.rd fr) rd)) ∧ SV P ρ T (rdA y.2.1 (y.2.2.op.rd (push x.2.2.d v fr)) (rdA x.2.1 (x.2.2.op.rd fr) rd)) (push y.2.2.d v_1 (push x.2.2.d v fr)) H'_1 C
                | some false => SV P ρ T (rdA x.2.1 (x.2.2.op.rd fr) rd) (push y.2.2.d (.tup []) (push x.2.2.d v fr)) H' C
                | none => False) := by
            intro v H' hkk hs
            simp only [my, hmy]
            refine cy (vopE_move hy hkk (fun K' h => hw K' h) _ ⟨fun e => absurd e (by simp [hy]), ?_⟩)
            rw [ry]
            exact SV_rd hC rdA_swap (sw hs)
          simp only at hk ⊢
          cases hxh : x.2.2.op.heap with
          | false =>
            obtain ⟨vx, ⟨-, h2⟩, hw2⟩ := pureE hxh (cx hk)
            exact hw2 _ ⟨fun e => absurd e (by simp), main vx H (fun _ _ => rfl) h2⟩
          | true =>
            refine vopE_mono (fun v H' hq => ?_) (cx hk)
            have hkp := hq.1
            rw [hxh] at hkp
            refine ⟨fun e => kept_mem.2 fun k hm => kept_mem.1 (hkp e) k ?_, main v H' ?_ hq.2⟩
            · cases y.2.1 <;> simp [rdA, hm]
            · intro k hm
              cases hld : y.2.2.op.load with
              | false => rw [rd_load hld] at hm; cases hm
              | true =>
                have ht := hl hxh hld
                exact kept_mem.1 (hkp (by simp [ht.2])) k (by rw [ht.1]; simp [rdA, hm])

theorem SV_move (hC : Cok C) {x : SI} : ∀ {R1 R2 : List SI} {rd : List Nat} {fr : List (Nat × Sv)} {H : List Blk}, (∀ y ∈ R1, y.2.2.op.heap = false ∧ indep y.2.2 x.2.2 ∧ (x.2.2.op.heap = true → y.2.2.op.load = true → y.2.1 = true ∧ x.2.1 = false)) →
    SV P ρ (R1 ++ x :: R2) rd fr H C → SV P ρ (x :: (R1 ++ R2)) rd fr H C
  | [], _, _, _, _, _, hv => hv
  | y :: R1, R2, rd, fr, H, h, hv => by
    obtain ⟨h1, h2, h3⟩ := h y (by simp)
    refine SV_swap hC h1 h2 h3 ?_
    simp only [List.cons_append, SV] at hv ⊢
    exact XV_mono (fun rd fr H hk => SV_move hC (fun z hz => h z (by simp [hz])) hk) hv
end
/-! ### the checks -/
def chkQI (P : Program) (ρ : Nat → FuncId) (N : Nat) (ops : Array Oper) (o : Oper) (p : QI) : Bool :=
 chkDst N o.dst p.d && chkGuard ops o.guard p.g && chkQ P ρ o.op p.op
def chkQReg (P : Program) (ρ : Nat → FuncId) (N : Nat) (ops : Array Oper) : List Oper → List QI → Bool
  | o :: l, p :: ps => chkQI P ρ N ops o p && chkQReg P ρ N ops l ps
  | [], [] => true
  | _, _ => false
def notIn (d : Option Nat) (l : List Nat) : Bool := match d with
  | some s => !l.contains s
  | none => true
def chkPair (B : List Nat) (y x : SI) : Bool := bt B x.1 y.1 ||
 (!y.2.2.op.heap && notIn y.2.2.d (x.2.2.op.sl ++ guardSl x.2.2.g) && notIn x.2.2.d (y.2.2.op.sl ++ guardSl y.2.2.g) && (match y.2.2.d, x.2.2.d with | some a, some b => a != b | _, _ => true) &&
  (!(x.2.2.op.heap && y.2.2.op.load) || (y.2.1 && !x.2.1)))
def chkPairs (B : List Nat) : List SI → Bool
  | [] => true
  | y :: r => r.all (chkPair B y) && chkPairs B r
def chkDrs (P : Program) (ρ : Nat → FuncId) (N : Nat) (ops : Array Oper) (ps : List SI) (B : List Nat) : Bool :=
  okB ops B && nodupB (ps.map (·.1)) && (List.range ops.size).all (fun i => (ps.map (·.1)).contains i) && ps.all (fun p => match ops[p.1]? with
    | some o => chkQI P ρ N ops o p.2.2
    | none => false) && chkPairs B ps

/-- two operations that change the blocks, in either order -/
def chkDrf (P : Program) (ρ : Nat → FuncId) (N : Nat) (ops : Array Oper) (A : List SI) (p q : SI) (T : List SI) (B : List Nat) : Bool :=
  okB ops B && nodupB ((A ++ p :: q :: T).map (·.1)) && (List.range ops.size).all (fun i => ((A ++ p :: q :: T).map (·.1)).contains i) &&
    (A ++ p :: q :: T).all (fun p => match ops[p.1]? with
      | some o => chkQI P ρ N ops o p.2.2
      | none => false) && chkPairs B (A ++ p :: T) && chkPairs B (A ++ q :: T) && T.all (fun x => bt B x.1 p.1 && bt B x.1 q.1)

section
variable {P : Program} {ρ : Nat → FuncId} {N : Nat} {ops : Array Oper} {B : List Nat}
variable {σ₀ : Nat → Nat} {H₀ : List Blk} {w₀ : World}
theorem notIn_spec {d : Option Nat} {l : List Nat} (h : notIn d l = true) : ∀ s, d = some s → s ∉ l := by
 rintro s rfl
 simpa [notIn] using h
theorem chkPair_spec {y x : SI} (h : chkPair B y x = true) (hb : bt B x.1 y.1 = false) : y.2.2.op.heap = false ∧ indep y.2.2 x.2.2 ∧ (x.2.2.op.heap = true → y.2.2.op.load = true → y.2.1 = true ∧ x.2.1 = false) := by
 simp only [chkPair, hb, Bool.false_or, Bool.and_eq_true, Bool.not_eq_true', Bool.or_eq_true] at h
 obtain ⟨⟨⟨⟨h1, h2⟩, h3⟩, h4⟩, h5⟩ := h
 refine ⟨h1, ⟨fun s hs => ?_, fun s hs => ?_, fun s hs hx => ?_⟩, fun e1 e2 => ?_⟩
 ·have := notIn_spec h2 s hs
  simpa [not_or] using this
 ·have := notIn_spec h3 s hs
  simpa [not_or] using this
 ·rw [hs, hx] at h4
  simp at h4
 ·rcases h5 with h5 | h5
  ·simp [e1, e2] at h5
  ·exact h5
theorem chkPairs_spec : ∀ {R1 R2 : List SI} {x : SI}, chkPairs B (R1 ++ x :: R2) = true → (∀ y ∈ R1, chkPair B y x = true) ∧ chkPairs B (R1 ++ R2) = true
  | [], R2, x, h => by
    simp only [List.nil_append, chkPairs, Bool.and_eq_true] at h
    exact ⟨by simp, h.2⟩
  | y :: R1, R2, x, h => by
    simp only [List.cons_append, chkPairs, Bool.and_eq_true, List.all_eq_true] at h
    obtain ⟨h1, h2⟩ := chkPairs_spec h.2
    refine ⟨?_, ?_⟩
    · intro z hz
      rcases List.mem_cons.1 hz with rfl | hz
      · exact h.1 x (by simp)
      · exact h1 z hz
    · simp only [List.cons_append, chkPairs, Bool.and_eq_true, List.all_eq_true]
      refine ⟨fun z hz => h.1 z ?_, h2⟩
      simp only [List.mem_append, List.mem_cons] at hz ⊢
      rcases hz with h | h
      · exact .inl h
      · exact .inr (.inr h)

/-- one checked operation from a state -/
theorem qone_step {o : Oper} {p : SI} {T : List SI} {rd : List Nat} {σ : Nat → Nat} {w : World} {a : Act} {st : St} {C : List Nat → List (Nat × Sv) → List Blk → Prop} {K : Act → World → Prop} {Q : Exit → Act → World → Prop} (hfn : ∀ f, fnOk P (ρ f) = true)
    (hc : chkQI P ρ N ops o p.2.2 = true) (hi : Inv ρ σ₀ H₀ w₀ N σ a w st) (hv : SV P ρ (p :: T) rd st.fr st.hp C) (hn : ∀ σ' a' w' st' rd', SV P ρ T rd' st'.fr st'.hp C → Inv ρ σ₀ H₀ w₀ N σ' a' w' st' → K a' w') :
    if Region.wanted o (yielded ops a.tmps) = true then o.wp P a w K Q else K (a.put o.dst undef) w := by
  obtain ⟨i, t, ⟨d, g, op⟩⟩ := p
  simp only [chkQI, Bool.and_eq_true] at hc
  obtain ⟨⟨h1, h2⟩, h3⟩ := hc
  obtain ⟨hd, hdN⟩ := chkDst_spec h1
  simp only [SV] at hv
  unfold XV at hv
  have run : vopE P ρ st.fr st.hp op (fun v H' => ((op.heap && !t) = true → kept st.hp H' rd) ∧ SV P ρ T (rdA t (op.rd st.fr) rd) (push d v st.fr) H' C) → o.wp P a w K Q := by
    intro hv
    refine qop_sound hfn h3 hi.f hi.s.h hv ?_
    intro v H' σ' w' hK sp hl
    rw [hd]
    exact hn _ _ _ ⟨_, _⟩ _ hK.2 (hi.step hi.f sp hl (fun t ht => hdN t (by rw [hd]; exact ht)))
  have skip : SV P ρ T rd (push d (.tup []) st.fr) st.hp C → K (a.put o.dst undef) w := by
    intro hv
    rw [hd]
    exact hn _ _ _ ⟨_, _⟩ _ hv (hi.step (v := .tup []) hi.f (Sp.refl hi.s.h) rfl (fun t ht => hdN t (by rw [hd]; exact ht)))
  unfold chkGuard at h2
  split at h2
  · rename_i g1
    rw [if_pos (by simp [Region.wanted, g1])]
    exact run hv
  · rename_i j b s b' g1
    simp only [Bool.and_eq_true, beq_iff_eq] at h2
    obtain ⟨rfl, h2⟩ := h2
    simp only [mode] at hv
    cases hg : lk st.fr s with
    | none => rw [hg] at hv; exact hv.elim
    | some v =>
      have ht := hi.f.val s _ hg
      rw [hg] at hv
      cases v with
      | tup l =>
        have hy : yielded ops a.tmps j = none := by
          unfold yielded
          rw [h2]
          simp [ht, renS]
        rw [if_neg (by simp [Region.wanted, g1, hy])]
        exact skip hv
      | rc l => exact hv.elim
      | one x =>
        cases x with
        | b g =>
          have hy : yielded ops a.tmps j = some g := by
            unfold yielded
            rw [h2]
            simp [ht, renS, ren]
          simp only at hv
          cases hgb : (g == b) with
          | true =>
            rw [hgb] at hv
            simp only [beq_iff_eq] at hgb; subst hgb
            rw [if_pos (by simp [Region.wanted, g1, hy])]
            exact run hv
          | false =>
            rw [hgb] at hv
            have hgb' : g ≠ b := by simpa using hgb
            rw [if_neg (by simp [Region.wanted, g1, hy, hgb'])]
            exact skip hv
        | _ => exact hv.elim
  · cases h2

theorem split_at {R : List SI} {k : Nat} (h : k ∈ R.map (·.1)) : ∃ R1 x R2, R = R1 ++ x :: R2 ∧ x.1 = k := by
 obtain ⟨x, hx, rfl⟩ := List.mem_map.1 h
 obtain ⟨R1, R2, e⟩ := List.append_of_mem hx
 exact ⟨R1, x, R2, e, rfl⟩

theorem phaseS {Q : Exit → Act → World → Prop} {Qp : St → Prop} (hfn : ∀ f, fnOk P (ρ f) = true) (hB : okB ops B = true) (hq : ∀ st' σ' a' w', Qp st' → Inv ρ σ₀ H₀ w₀ N σ' a' w' st' → Q .normal a' w') :
    ∀ (n : Nat) (R : List SI) (fuel : Nat) (l : Array Bool) (a : Act) (w : World) (σ : Nat → Nat) (st : St) (rd : List Nat), R.length = n → chkPairs B R = true → (∀ p ∈ R, ∃ o, ops[p.1]? = some o ∧ chkQI P ρ N ops o p.2.2 = true) → l.size = ops.size → Closed ops (Dn l) →
      (∀ k, k < ops.size → Dn l k ∨ k ∈ R.map (·.1)) → (∀ k ∈ R.map (·.1), ¬ Dn l k) → (R.map (·.1)).Nodup → und ops l ≤ fuel → Inv ρ σ₀ H₀ w₀ N σ a w st → SV P ρ R rd st.fr st.hp (lf Qp) → wpAny P .any ops Q fuel l a w := by
  intro n
  induction n with
  | zero =>
    intro R fuel l a w σ st rd hR _ _ _ _ hall _ _ _ hi hv
    obtain rfl := List.length_eq_zero_iff.1 hR
    have hr : Region.ready .any ops l = [] := by
      apply List.eq_nil_iff_forall_not_mem.2
      intro i hi
      obtain ⟨h1, h2, o, ho, -⟩ := ready_spec hi
      have := (Array.getElem?_eq_some_iff.1 ho).1
      exact h1 ((hall i this).resolve_right (by simp))
    obtain ⟨fr0, h1, h2⟩ := hv
    refine wpAny_done hr (hq ⟨fr0, st.hp⟩ σ a w h2 ⟨⟨fun s v e => hi.f.val s v (by rw [← h1]; exact e), fun s v e => hi.f.clo s v (by rw [← h1]; exact e)⟩, hi.s, hi.sz, hi.df⟩) fuel
  | succ n ih =>
    intro R fuel l a w σ st rd hR hpair hck hl hclo hall hun hnd hf hi hv
    obtain ⟨x0, R0, rfl⟩ : ∃ x0 R0, R = x0 :: R0 := by
      cases R with
      | nil => cases hR
      | cons x r => exact ⟨x, r, rfl⟩
    have hu := hun x0.1 (by simp)
    obtain ⟨o0, ho0, -⟩ := hck x0 (by simp)
    have hilt : x0.1 < ops.size := (Array.getElem?_eq_some_iff.1 ho0).1
    have hpos := und_pos hilt hu
    obtain ⟨fuel, rfl⟩ : ∃ f', fuel = f' + 1 := ⟨fuel - 1, by omega⟩
    refine ⟨fun h => (ready_ex hB hl hilt hu h).elim, fun k hk => ?_⟩
    obtain ⟨h1, h2, o, ho, h3⟩ := ready_spec hk
    have hklt : k < ops.size := (Array.getElem?_eq_some_iff.1 ho).1
    have hm := (hall k hklt).resolve_left h1
    obtain ⟨R1, x, R2, hRe, rfl⟩ := split_at hm
    rw [hRe] at hpair hck hall hun hnd hv hR
    obtain ⟨p1, p2⟩ := chkPairs_spec hpair
    have hmove : SV P ρ (x :: (R1 ++ R2)) rd st.fr st.hp (lf Qp) := by
      refine SV_move lf_ok ?_ hv
      intro y hy
      refine chkPair_spec (p1 y hy) ?_
      cases hb : bt B x.1 y.1 with
      | false => rfl
      | true => exact (hun y.1 (List.mem_map.2 ⟨y, List.mem_append_left _ hy, rfl⟩) (hclo.ready hB ho h3 y.1 hb)).elim
    obtain ⟨ox, hox, hcx⟩ := hck x (by simp)
    rw [ho] at hox; cases hox
    refine wpOp_of ho (qone_step hfn hcx hi hmove ?_)
    intro σ' a' w' st' rd' hR' hi'
    have hset := Dn_set h2
    have hmem : ∀ k, k ∈ (R1 ++ x :: R2).map (·.1) ↔ k = x.1 ∨ k ∈ (R1 ++ R2).map (·.1) := by
      intro k
      simp only [List.map_append, List.map_cons, List.mem_append, List.mem_cons]
      constructor
      · rintro (h | h | h)
        · exact .inr (.inl h)
        · exact .inl h
        · exact .inr (.inr h)
      · rintro (h | h | h)
        · exact .inr (.inl h)
        · exact .inl h
        · exact .inr (.inr h)
    have hnd2 : x.1 ∉ (R1 ++ R2).map (·.1) ∧ ((R1 ++ R2).map (·.1)).Nodup := by
      have hp : ((R1 ++ x :: R2).map (·.1)).Perm (x.1 :: (R1 ++ R2).map (·.1)) := by
        simp
      have := hp.nodup_iff.1 hnd
      exact List.nodup_cons.1 this
    refine ih (R1 ++ R2) fuel (l.setIfInBounds x.1 true) a' w' σ' st' rd' ?_ p2 ?_ (by simpa using hl) ?_ ?_ ?_ hnd2.2 ?_ hi' hR'
    · simp only [List.length_append, List.length_cons] at hR ⊢; omega
    · intro p hp
      exact hck p (by simp only [List.mem_append, List.mem_cons] at hp ⊢; rcases hp with h | h; exact .inl h; exact .inr (.inr h))
    · rw [hset]
      intro y oy hoy hy n hn
      rcases hy with hy | rfl
      · exact .inl (hclo y oy hoy hy n hn)
      · rw [ho] at hoy; cases hoy
        exact .inl (h3 n hn)
    · rw [hset]
      intro y hy
      rcases hall y hy with h | h
      · exact .inl (.inl h)
      · rcases (hmem y).1 h with h | h
        · exact .inl (.inr h)
        · exact .inr h
    · rw [hset]
      intro y hy
      rintro (h | h)
      · exact hun y ((hmem y).2 (.inr hy)) h
      · subst h; exact hnd2.1 hy
    · have := und_set hklt hl h1
      omega

theorem idx_out {R1 R2 : List SI} {x : SI} (hnd : ((R1 ++ x :: R2).map (·.1)).Nodup) : x.1 ∉ (R1 ++ R2).map (·.1) ∧ ((R1 ++ R2).map (·.1)).Nodup ∧ ∀ k, k ∈ (R1 ++ x :: R2).map (·.1) ↔ k = x.1 ∨ k ∈ (R1 ++ R2).map (·.1) := by
 have hp : ((R1 ++ x :: R2).map (·.1)).Perm (x.1 :: (R1 ++ R2).map (·.1)) := by
  have := (List.perm_middle (a := x) (l₁ := R1) (l₂ := R2)).map (·.1)
  simp only [List.map_cons] at this
  exact this
 have := hp.nodup_iff.1 hnd
 obtain ⟨h1, h2⟩ := List.nodup_cons.1 this
 refine ⟨h1, h2, fun k => ?_⟩
 rw [hp.mem_iff, List.mem_cons]

/-- a region with two operations in either order -/
def fk (P : Program) (ρ : Nat → FuncId) (p q : SI) (T : List SI) (Qp : St → Prop) (rd : List Nat) (fr : List (Nat × Sv)) (H : List Blk) : Prop :=
 SV P ρ (p :: q :: T) rd fr H (lf Qp) ∧ SV P ρ (q :: p :: T) rd fr H (lf Qp)
theorem fk_ok {p q : SI} {T : List SI} {Qp : St → Prop} : Cok (fk P ρ p q T Qp) := ⟨fun h hv => ⟨SV_congr lf_ok h hv.1, SV_congr lf_ok h hv.2⟩, fun h hv => ⟨SV_rd lf_ok h hv.1, SV_rd lf_ok h hv.2⟩⟩
theorem SV_app {C : List Nat → List (Nat × Sv) → List Blk → Prop} : ∀ {A T : List SI} {rd : List Nat} {fr : List (Nat × Sv)} {H : List Blk}, SV P ρ A rd fr H (fun rd' fr' H' => SV P ρ T rd' fr' H' C) → SV P ρ (A ++ T) rd fr H C
  | [], _, _, _, _, h => h
  | p :: A, T, rd, fr, H, h => by
    simp only [List.cons_append, SV] at h ⊢
    exact XV_mono (fun rd fr H hk => SV_app hk) h
theorem SV_mono {C C' : List Nat → List (Nat × Sv) → List Blk → Prop} (hC : ∀ rd fr H, C rd fr H → C' rd fr H) : ∀ {A : List SI} {rd : List Nat} {fr : List (Nat × Sv)} {H : List Blk}, SV P ρ A rd fr H C → SV P ρ A rd fr H C'
  | [], _, _, _, h => hC _ _ _ h
  | p :: A, rd, fr, H, h => by
    simp only [SV] at h ⊢
    exact XV_mono (fun rd fr H hk => SV_mono hC hk) h

theorem phaseF {Q : Exit → Act → World → Prop} {Qp : St → Prop} (hfn : ∀ f, fnOk P (ρ f) = true) (hB : okB ops B = true) (hq : ∀ st' σ' a' w', Qp st' → Inv ρ σ₀ H₀ w₀ N σ' a' w' st' → Q .normal a' w') {p q : SI} {T : List SI} (hT : ∀ x ∈ T, bt B x.1 p.1 = true ∧ bt B x.1 q.1 = true) :
    ∀ (n : Nat) (A : List SI) (fuel : Nat) (l : Array Bool) (a : Act) (w : World) (σ : Nat → Nat) (st : St) (rd : List Nat), A.length = n → chkPairs B (A ++ p :: T) = true → chkPairs B (A ++ q :: T) = true →
      (∀ x ∈ A ++ p :: q :: T, ∃ o, ops[x.1]? = some o ∧ chkQI P ρ N ops o x.2.2 = true) → l.size = ops.size → Closed ops (Dn l) →
      (∀ k, k < ops.size → Dn l k ∨ k ∈ (A ++ p :: q :: T).map (·.1)) → (∀ k ∈ (A ++ p :: q :: T).map (·.1), ¬ Dn l k) → ((A ++ p :: q :: T).map (·.1)).Nodup → und ops l ≤ fuel → Inv ρ σ₀ H₀ w₀ N σ a w st →
      SV P ρ A rd st.fr st.hp (fk P ρ p q T Qp) → wpAny P .any ops Q fuel l a w := by
  intro n
  induction n with
  | zero => ?_
  | succ n ih => ?_
  all_goals
    intro A fuel l a w σ st rd hR hp1 hp2 hck hl hclo hall hun hnd hf hi hv
    have hu := hun p.1 (by simp)
    obtain ⟨o0, ho0, -⟩ := hck p (by simp)
    have hilt : p.1 < ops.size := (Array.getElem?_eq_some_iff.1 ho0).1
    have hpos := und_pos hilt hu
    obtain ⟨fuel, rfl⟩ : ∃ f', fuel = f' + 1 := ⟨fuel - 1, by omega⟩
    refine ⟨fun h => (ready_ex hB hl hilt hu h).elim, fun k hk => ?_⟩
    obtain ⟨h1, h2, o, ho, h3⟩ := ready_spec hk
    have hklt : k < ops.size := (Array.getElem?_eq_some_iff.1 ho).1
    have hm := (hall k hklt).resolve_left h1
    have hset := Dn_set h2
    -- one step out of a whole list
    have one : ∀ (x z : SI) (R2 : List SI), x.1 = k → A ++ p :: q :: T = A ++ R2 ∨ True → (∀ y, y ∈ (A ++ p :: q :: T) ↔ y = x ∨ y ∈ A ++ z :: T) → ((A ++ x :: z :: T).map (·.1)).Nodup → chkPairs B (A ++ x :: T) = true → chkPairs B (A ++ z :: T) = true →
        SV P ρ (A ++ x :: z :: T) rd st.fr st.hp (lf Qp) → wpOp P ops Q k (wpAny P .any ops Q fuel (l.setIfInBounds k true)) a w := by
      rintro x z - rfl - hmem hndx hx1 hz1 hs
      obtain ⟨p1, -⟩ := chkPairs_spec hx1
      have hmove : SV P ρ (x :: (A ++ z :: T)) rd st.fr st.hp (lf Qp) := by
        refine SV_move lf_ok ?_ hs
        intro y hy
        refine chkPair_spec (p1 y hy) ?_
        cases hb : bt B x.1 y.1 with
        | false => rfl
        | true => exact (hun y.1 (List.mem_map.2 ⟨y, List.mem_append_left _ hy, rfl⟩) (hclo.ready hB ho h3 y.1 hb)).elim
      obtain ⟨ox, hox, hcx⟩ := hck x ((hmem x).2 (.inl rfl))
      rw [ho] at hox; cases hox
      obtain ⟨d1, d2, d3⟩ := idx_out (R1 := A) (x := x) (R2 := z :: T) hndx
      refine wpOp_of ho (qone_step hfn hcx hi hmove ?_)
      intro σ' a' w' st' rd' hR' hi'
      have hix : ∀ k, k ∈ (A ++ p :: q :: T).map (·.1) ↔ k = x.1 ∨ k ∈ (A ++ z :: T).map (·.1) := by
        intro k
        simp only [List.mem_map, hmem]
        constructor
        · rintro ⟨y, rfl | hy, rfl⟩
          · exact .inl rfl
          · exact .inr ⟨y, hy, rfl⟩
        · rintro (rfl | ⟨y, hy, rfl⟩)
          · exact ⟨x, .inl rfl, rfl⟩
          · exact ⟨y, .inr hy, rfl⟩
      refine phaseS hfn hB hq _ (A ++ z :: T) fuel (l.setIfInBounds x.1 true) a' w' σ' st' rd' rfl hz1 ?_ (by simpa using hl) ?_ ?_ ?_ d2 ?_ hi' hR'
      · intro y hy
        exact hck y ((hmem y).2 (.inr hy))
      · rw [hset]
        intro y oy hoy hy n hn
        rcases hy with hy | rfl
        · exact .inl (hclo y oy hoy hy n hn)
        · rw [ho] at hoy; cases hoy
          exact .inl (h3 n hn)
      · rw [hset]
        intro y hy
        rcases hall y hy with h | h
        · exact .inl (.inl h)
        · rcases (hix y).1 h with h | h
          · exact .inl (.inr h)
          · exact .inr h
      · rw [hset]
        intro y hy
        rintro (h | h)
        · exact hun y ((hix y).2 (.inr hy)) h
        · subst h; exact d1 hy
      · have := und_set hklt hl h1
        omega
    obtain ⟨x, hx, rfl⟩ := List.mem_map.1 hm
    rcases List.mem_append.1 hx with hx | hx
    rotate_left
    · rcases List.mem_cons.1 hx with rfl | hx
      · refine one x q [] rfl (.inr trivial) ?_ hnd hp1 hp2 (SV_app (SV_mono (fun _ _ _ h => h.1) hv))
        intro y
        simp only [List.mem_append, List.mem_cons]
        constructor
        · rintro (h | h | h | h)
          · exact .inr (.inl h)
          · exact .inl h
          · exact .inr (.inr (.inl h))
          · exact .inr (.inr (.inr h))
        · rintro (h | h | h | h)
          · exact .inr (.inl h)
          · exact .inl h
          · exact .inr (.inr (.inl h))
          · exact .inr (.inr (.inr h))
      · rcases List.mem_cons.1 hx with rfl | hx
        · refine one x p [] rfl (.inr trivial) ?_ ?_ hp2 hp1 (SV_app (SV_mono (fun _ _ _ h => h.2) hv))
          · intro y
            simp only [List.mem_append, List.mem_cons]
            constructor
            · rintro (h | h | h | h)
              · exact .inr (.inl h)
              · exact .inr (.inr (.inl h))
              · exact .inl h
              · exact .inr (.inr (.inr h))
            · rintro (h | h | h | h)
              · exact .inr (.inr (.inl h))
              · exact .inl h
              · exact .inr (.inl h)
              · exact .inr (.inr (.inr h))
          · have hpm : ((A ++ x :: p :: T).map (·.1)).Perm ((A ++ p :: x :: T).map (·.1)) := ((List.Perm.swap p x T).append_left A).map (·.1)
            exact hpm.nodup_iff.2 hnd
        · exact (hu (hclo.ready hB ho h3 p.1 (hT x hx).1)).elim
  · obtain rfl := List.length_eq_zero_iff.1 hR
    cases hx
  · obtain ⟨A1, A2, rfl⟩ := List.append_of_mem hx
    rw [List.append_assoc, List.cons_append] at hp1 hp2 hck hall hun hnd
    obtain ⟨p1, q1⟩ := chkPairs_spec hp1
    obtain ⟨-, q2⟩ := chkPairs_spec hp2
    have hmove : SV P ρ (x :: (A1 ++ A2)) rd st.fr st.hp (fk P ρ p q T Qp) := by
      refine SV_move fk_ok ?_ hv
      intro y hy
      refine chkPair_spec (p1 y hy) ?_
      cases hb : bt B x.1 y.1 with
      | false => rfl
      | true => exact (hun y.1 (List.mem_map.2 ⟨y, List.mem_append_left _ hy, rfl⟩) (hclo.ready hB ho h3 y.1 hb)).elim
    obtain ⟨ox, hox, hcx⟩ := hck x (by simp)
    rw [ho] at hox; cases hox
    obtain ⟨d1, d2, d3⟩ := idx_out hnd
    refine wpOp_of ho (qone_step hfn hcx hi hmove ?_)
    intro σ' a' w' st' rd' hR' hi'
    rw [← List.append_assoc] at q1 q2 d1 d2 d3
    refine ih (A1 ++ A2) fuel (l.setIfInBounds x.1 true) a' w' σ' st' rd' ?_ q1 q2 ?_ (by simpa using hl) ?_ ?_ ?_ d2 ?_ hi' hR'
    · simp only [List.length_append, List.length_cons] at hR ⊢; omega
    · intro y hy
      refine hck y ?_
      simp only [List.mem_append, List.mem_cons] at hy ⊢
      rcases hy with (h | h) | h
      · exact .inl h
      · exact .inr (.inr (.inl h))
      · exact .inr (.inr (.inr h))
    · rw [hset]
      intro y oy hoy hy n hn
      rcases hy with hy | rfl
      · exact .inl (hclo y oy hoy hy n hn)
      · rw [ho] at hoy; cases hoy
        exact .inl (h3 n hn)
    · rw [hset]
      intro y hy
      rcases hall y hy with h | h
      · exact .inl (.inl h)
      · rcases (d3 y).1 h with h | h
        · exact .inl (.inr h)
        · exact .inr h
    · rw [hset]
      intro y hy
      rintro (h | h)
      · exact hun y ((d3 y).2 (.inr hy)) h
      · subst h; exact d1 hy
    · have := und_set hklt hl h1
      omega

theorem drf_sound {id : Nat} {Q : Exit → Act → World → Prop} {Qp : St → Prop} {A T : List SI} {p q : SI} {σ : Nat → Nat} {w : World} {a : Act} {st : St}
  (hfn : ∀ f, fnOk P (ρ f) = true) (hm : P.follows .mixedOrders = true) (hc : chkDrf P ρ N ops A p q T B = true) (hi : Inv ρ σ₀ H₀ w₀ N σ a w st)
  (hv : sreg P ρ A [] st fun rd st' => sreg P ρ (p :: q :: T) rd st' (fun _ st' => Qp st') ∧ sreg P ρ (q :: p :: T) rd st' (fun _ st' => Qp st'))
  (hq : ∀ st' σ' a' w', Qp st' → Inv ρ σ₀ H₀ w₀ N σ' a' w' st' → Q .normal a' w') : (Code.region id ops true).wp P Q a w := by
 simp only [chkDrf, Bool.and_eq_true] at hc
 obtain ⟨⟨⟨⟨⟨⟨hB, hnod⟩, hcov⟩, hck⟩, hp1⟩, hp2⟩, hT⟩ := hc
 rw [List.all_eq_true] at hcov hck hT
 refine wp_region_any hm ?_
 have hun0 : ∀ k, ¬ Dn (Array.replicate ops.size false) k := by
  intro k
  unfold Dn
  by_cases h : k < ops.size <;> simp [h]
 have hi1 : Inv ρ σ₀ H₀ w₀ N σ a { w with drawn := w.drawn + 1 } st :=
  ⟨hi.f, ⟨⟨hi.s.h.at_, hi.s.h.sep, hi.s.h.clo⟩, ⟨hi.s.k.os, hi.s.k.tape, hi.s.k.output, hi.s.k.size, hi.s.k.old⟩, hi.s.len, hi.s.same, hi.s.rof, hi.s.fresh⟩, hi.sz, hi.df⟩
 refine phaseF hfn hB hq (fun x hx => by have := hT x hx; simpa using this) A.length A ops.size (Array.replicate ops.size false) a { w with drawn := w.drawn + 1 } σ st [] rfl hp1 hp2 ?_ (by simp) (fun i o ho hD => (hun0 i hD).elim) ?_ (fun k _ => hun0 k) (nodupB_spec hnod) ?_ hi1 ?_
 ·intro p hp
  have := hck p hp
  split at this
  ·rename_i o ho; exact ⟨o, ho, this⟩
  ·cases this
 ·intro k hk
  have := hcov k (List.mem_range.2 hk)
  exact .inr (by simpa using this)
 ·unfold und
  have := List.length_filter_le (fun i => !(Array.replicate ops.size false).getD i false) (List.range ops.size)
  simpa using this
 ·exact sreg_SV fk_ok (fun rd st h => ⟨sreg_SV lf_ok (fun _ st h => ⟨st.fr, fun _ => rfl, h⟩) h.1, sreg_SV lf_ok (fun _ st h => ⟨st.fr, fun _ => rfl, h⟩) h.2⟩) hv

theorem drs_sound {id : Nat} {Q : Exit → Act → World → Prop} {Qp : St → Prop} {ps : List SI} {σ : Nat → Nat} {w : World} {a : Act} {st : St}
  (hfn : ∀ f, fnOk P (ρ f) = true) (hm : P.follows .mixedOrders = true) (hc : chkDrs P ρ N ops ps B = true) (hi : Inv ρ σ₀ H₀ w₀ N σ a w st) (hv : sreg P ρ ps [] st fun _ st' => Qp st')
  (hq : ∀ st' σ' a' w', Qp st' → Inv ρ σ₀ H₀ w₀ N σ' a' w' st' → Q .normal a' w') : (Code.region id ops true).wp P Q a w := by
 simp only [chkDrs, Bool.and_eq_true, List.all_eq_true] at hc
 obtain ⟨⟨⟨⟨hB, hnod⟩, hcov⟩, hck⟩, hpair⟩ := hc
 refine wp_region_any hm ?_
 have hun0 : ∀ k, ¬ Dn (Array.replicate ops.size false) k := by
  intro k
  unfold Dn
  by_cases h : k < ops.size <;> simp [h]
 have hi1 : Inv ρ σ₀ H₀ w₀ N σ a { w with drawn := w.drawn + 1 } st :=
  ⟨hi.f, ⟨⟨hi.s.h.at_, hi.s.h.sep, hi.s.h.clo⟩, ⟨hi.s.k.os, hi.s.k.tape, hi.s.k.output, hi.s.k.size, hi.s.k.old⟩, hi.s.len, hi.s.same, hi.s.rof, hi.s.fresh⟩, hi.sz, hi.df⟩
 refine phaseS hfn hB hq ps.length ps ops.size (Array.replicate ops.size false) a { w with drawn := w.drawn + 1 } σ st [] rfl hpair ?_ (by simp) (fun i o ho hD => (hun0 i hD).elim) ?_ (fun k _ => hun0 k) (nodupB_spec hnod) ?_ hi1 (sreg_SV lf_ok (fun _ st h => ⟨st.fr, fun _ => rfl, h⟩) hv)
 ·intro p hp
  have := hck p hp
  split at this
  ·rename_i o ho; exact ⟨o, ho, this⟩
  ·cases this
 ·intro k hk
  have := hcov k (List.mem_range.2 hk)
  exact .inr (by simpa using this)
 ·unfold und
  have := List.length_filter_le (fun i => !(Array.replicate ops.size false).getD i false) (List.range ops.size)
  simpa using this

/-- a region in order -/
theorem qreg_sound {Q : Exit → Act → World → Prop} (hfn : ∀ f, fnOk P (ρ f) = true) : ∀ {l : List Oper} {ps : List QI} {σ : Nat → Nat} {w : World} {a : Act} {st : St} {Qp : St → Prop}, chkQReg P ρ N ops l ps = true → Inv ρ σ₀ H₀ w₀ N σ a w st → qreg P ρ ps st Qp →
    (∀ st' σ' a' w', Qp st' → Inv ρ σ₀ H₀ w₀ N σ' a' w' st' → Q .normal a' w') → wpList P ops Q l a w
  | [], [], σ, w, a, st, Qp, _, hi, hv, hq => hq st σ a w hv hi
  | o :: l, p :: ps, σ, w, a, st, Qp, hc, hi, hv, hq => by
    simp only [chkQReg, chkQI, Bool.and_eq_true] at hc
    obtain ⟨⟨⟨h1, h2⟩, h3⟩, h4⟩ := hc
    obtain ⟨hd, hdN⟩ := chkDst_spec h1
    obtain ⟨d, g, op⟩ := p
    obtain ⟨fr, hp⟩ := st
    change qstep P ρ ⟨d, g, op⟩ ⟨fr, hp⟩ (fun st' => qreg P ρ ps st' Qp) at hv
    unfold wpList
    unfold chkGuard at h2
    split at h2
    · rename_i g1 g2
      simp only at g2
      subst g2
      rw [if_pos (by simp [Region.wanted, g1])]
      refine .inl (qop_sound hfn h3 hi.f hi.s.h hv ?_)
      intro v H' σ' w' hK sp hl
      rw [hd]
      exact qreg_sound hfn h4 (hi.step hi.f sp hl (fun t ht => hdN t (by rw [hd]; exact ht))) hK hq
    · rename_i j b s b' g1 g2
      simp only [Bool.and_eq_true, beq_iff_eq] at h2
      obtain ⟨rfl, h2⟩ := h2
      simp only at g2
      subst g2
      simp only [qstep] at hv
      split at hv
      · rename_i g hg
        replace hv := brB_elim hv
        unfold gdo at hv
        have ht := hi.f.val s _ hg
        have hy : yielded ops a.tmps j = some g := by
          unfold yielded
          rw [h2]
          simp [ht, renS, ren]
        have hfr : FRel ρ σ a.tmps ((s, .one (.b g)) :: fr) hp.length := by
          refine ⟨?_, ?_⟩
          · intro s' u hu
            rw [lk_dup hg] at hu
            exact hi.f.val s' u hu
          · intro s' u hu
            rw [lk_dup hg] at hu
            exact hi.f.clo s' u hu
        split at hv
        · rename_i hgb
          simp only [beq_iff_eq] at hgb; subst hgb
          rw [if_pos (by simp [Region.wanted, g1, hy])]
          refine .inl (qop_sound hfn h3 hfr hi.s.h hv ?_)
          intro v H' σ' w' hK sp hl
          rw [hd]
          exact qreg_sound hfn h4 (hi.step hfr sp hl (fun t ht => hdN t (by rw [hd]; exact ht))) hK hq
        · rename_i hgb
          have hgb' : g ≠ b := by simpa using hgb
          rw [if_neg (by simp [Region.wanted, g1, hy, hgb'])]
          rw [hd]
          exact qreg_sound hfn h4 (hi.step (v := .tup []) hfr (Sp.refl hi.s.h) rfl (fun t ht => hdN t (by rw [hd]; exact ht))) hv hq
      · rename_i l hg
        have ht := hi.f.val s _ hg
        have hy : yielded ops a.tmps j = none := by
          unfold yielded
          rw [h2]
          simp [ht, renS]
        rw [if_neg (by simp [Region.wanted, g1, hy])]
        rw [hd]
        exact qreg_sound hfn h4 (hi.step (v := .tup []) hi.f (Sp.refl hi.s.h) rfl (fun t ht => hdN t (by rw [hd]; exact ht))) hv hq
      · exact hv.elim
    · cases h2
  | [], _ :: _, _, _, _, _, _, hc, _, _, _ => by simp [chkQReg] at hc
  | _ :: _, [], _, _, _, _, _, hc, _, _, _ => by simp [chkQReg] at hc
end
/-! ### a region whose operations that change the blocks may come in several orders -/
/-- what may come next, and what is left then -/
def rdyL (B : List Nat) (R : List SI) : List (SI × List SI) := R.filterMap fun x => if R.all (fun y => !bt B x.1 y.1) then some (x, R.filter fun y => y.1 != x.1) else none
section
variable (P : Program) (ρ : Nat → FuncId)
noncomputable def trS (B : List Nat) (F : List SI) : List SI → List Nat → St → (St → Prop) → Prop :=
 List.rec (motive := fun _ => List SI → List Nat → St → (St → Prop) → Prop) (fun _ _ st Q => Q st)
  (fun _ _ ih R rd st Q => List.rec (motive := fun _ => Prop) True (fun xr _ r => sstep P ρ xr.1 rd st (fun rd' st' => ih xr.2 rd' st' Q) ∧ r) (rdyL B R)) F
def TR (B : List Nat) (C : List Nat → List (Nat × Sv) → List Blk → Prop) : List SI → List SI → List Nat → List (Nat × Sv) → List Blk → Prop
  | [], _ => C
  | _ :: F, R => fun rd fr H => ∀ xr ∈ rdyL B R, SV P ρ [xr.1] rd fr H (TR B C F xr.2)
end
def chkDrt (P : Program) (ρ : Nat → FuncId) (N : Nat) (ops : Array Oper) (A R : List SI) (B : List Nat) : Bool :=
  okB ops B && nodupB ((A ++ R).map (·.1)) && (List.range ops.size).all (fun i => ((A ++ R).map (·.1)).contains i) &&
    (A ++ R).all (fun p => match ops[p.1]? with
      | some o => chkQI P ρ N ops o p.2.2
      | none => false) && chkPairs B A && A.all (fun y => R.all (chkPair B y))
section
variable {P : Program} {ρ : Nat → FuncId} {N : Nat} {ops : Array Oper} {B : List Nat}
variable {σ₀ : Nat → Nat} {H₀ : List Blk} {w₀ : World}
theorem TR_ok {C : List Nat → List (Nat × Sv) → List Blk → Prop} (hC : Cok C) : ∀ {F R : List SI}, Cok (TR P ρ B C F R)
  | [], _ => hC
  | _ :: _, _ => ⟨fun h hv xr hx => SV_congr (TR_ok hC) h (hv xr hx), fun h hv xr hx => SV_rd (TR_ok hC) h (hv xr hx)⟩
theorem trS_TR {Qp : St → Prop} : ∀ {F R : List SI} {rd : List Nat} {st : St}, trS P ρ B F R rd st Qp → TR P ρ B (lf Qp) F R rd st.fr st.hp
  | [], _, _, st, hv => ⟨st.fr, fun _ => rfl, hv⟩
  | _ :: F, R, rd, st, hv => by
    intro xr hx
    change List.rec (motive := fun _ => Prop) True (fun xr _ r => sstep P ρ xr.1 rd st (fun rd' st' => trS P ρ B F xr.2 rd' st' Qp) ∧ r) (rdyL B R) at hv
    have main : ∀ l : List (SI × List SI), (List.rec (motive := fun _ => Prop) True (fun xr _ r => sstep P ρ xr.1 rd st (fun rd' st' => trS P ρ B F xr.2 rd' st' Qp) ∧ r) l : Prop) → ∀ xr ∈ l, sstep P ρ xr.1 rd st (fun rd' st' => trS P ρ B F xr.2 rd' st' Qp) := by
      intro l
      induction l with
      | nil => intro _ xr h; cases h
      | cons y l ih =>
        intro h xr hx
        rcases List.mem_cons.1 hx with rfl | hx
        · exact h.1
        · exact ih h.2 xr hx
    exact sreg_SV (TR_ok lf_ok) (fun rd st h => trS_TR h) (ps := [xr.1]) (main _ hv xr hx)
theorem phaseT {Q : Exit → Act → World → Prop} {Qp : St → Prop} (hfn : ∀ f, fnOk P (ρ f) = true) (hB : okB ops B = true) (hq : ∀ st' σ' a' w', Qp st' → Inv ρ σ₀ H₀ w₀ N σ' a' w' st' → Q .normal a' w') :
    ∀ (n : Nat) (A R F : List SI) (fuel : Nat) (l : Array Bool) (a : Act) (w : World) (σ : Nat → Nat) (st : St) (rd : List Nat), A.length + R.length = n → F.length = R.length → chkPairs B A = true → (∀ y ∈ A, ∀ x ∈ R, chkPair B y x = true) →
      (∀ p ∈ A ++ R, ∃ o, ops[p.1]? = some o ∧ chkQI P ρ N ops o p.2.2 = true) → l.size = ops.size → Closed ops (Dn l) →
      (∀ k, k < ops.size → Dn l k ∨ k ∈ (A ++ R).map (·.1)) → (∀ k ∈ (A ++ R).map (·.1), ¬ Dn l k) → ((A ++ R).map (·.1)).Nodup → und ops l ≤ fuel → Inv ρ σ₀ H₀ w₀ N σ a w st →
      SV P ρ A rd st.fr st.hp (TR P ρ B (lf Qp) F R) → wpAny P .any ops Q fuel l a w := by
  intro n
  induction n with
  | zero =>
    intro A R F fuel l a w σ st rd hn hF _ _ _ _ _ hall _ _ _ hi hv
    obtain rfl : A = [] := List.length_eq_zero_iff.1 (by omega)
    obtain rfl : R = [] := List.length_eq_zero_iff.1 (by omega)
    obtain rfl : F = [] := List.length_eq_zero_iff.1 (by simpa using hF)
    have hr : Region.ready .any ops l = [] := by
      apply List.eq_nil_iff_forall_not_mem.2
      intro i hi
      obtain ⟨h1, h2, o, ho, -⟩ := ready_spec hi
      have := (Array.getElem?_eq_some_iff.1 ho).1
      exact h1 ((hall i this).resolve_right (by simp))
    obtain ⟨fr0, h1, h2⟩ := hv
    refine wpAny_done hr (hq ⟨fr0, st.hp⟩ σ a w h2 ⟨⟨fun s v e => hi.f.val s v (by rw [← h1]; exact e), fun s v e => hi.f.clo s v (by rw [← h1]; exact e)⟩, hi.s, hi.sz, hi.df⟩) fuel
  | succ n ih =>
    intro A R F fuel l a w σ st rd hn hF hpA hpR hck hl hclo hall hun hnd hf hi hv
    obtain ⟨x0, hx0⟩ : ∃ x0, x0 ∈ A ++ R := by
      cases h : A ++ R with
      | nil => have := congrArg List.length h; simp only [List.length_append, List.length_nil] at this; omega
      | cons x r => exact ⟨x, by simp⟩
    have hu := hun x0.1 (List.mem_map_of_mem hx0)
    obtain ⟨o0, ho0, -⟩ := hck x0 hx0
    have hilt : x0.1 < ops.size := (Array.getElem?_eq_some_iff.1 ho0).1
    have hpos := und_pos hilt hu
    obtain ⟨fuel, rfl⟩ : ∃ f', fuel = f' + 1 := ⟨fuel - 1, by omega⟩
    refine ⟨fun h => (ready_ex hB hl hilt hu h).elim, fun k hk => ?_⟩
    obtain ⟨h1, h2, o, ho, h3⟩ := ready_spec hk
    have hklt : k < ops.size := (Array.getElem?_eq_some_iff.1 ho).1
    have hm := (hall k hklt).resolve_left h1
    have hset := Dn_set h2
    obtain ⟨x, hx, rfl⟩ := List.mem_map.1 hm
    have hnb : ∀ y ∈ A ++ R, bt B x.1 y.1 = false := fun y hy => by
      cases hb : bt B x.1 y.1 with
      | false => rfl
      | true => exact (hun y.1 (List.mem_map_of_mem hy) (hclo.ready hB ho h3 y.1 hb)).elim
    obtain ⟨ox, hox, hcx⟩ := hck x hx
    rw [ho] at hox; cases hox
    -- what is left behind either way
    have rest : ∀ (A' R' F' : List SI), A'.length + R'.length = n → F'.length = R'.length → chkPairs B A' = true → (∀ y ∈ A', ∀ z ∈ R', chkPair B y z = true) → (∀ p ∈ A' ++ R', p ∈ A ++ R) →
        (∀ k, k ∈ (A ++ R).map (·.1) ↔ k = x.1 ∨ k ∈ (A' ++ R').map (·.1)) → x.1 ∉ (A' ++ R').map (·.1) → ((A' ++ R').map (·.1)).Nodup → SV P ρ (x :: A') rd st.fr st.hp (TR P ρ B (lf Qp) F' R') →
        wpOp P ops Q x.1 (wpAny P .any ops Q fuel (l.setIfInBounds x.1 true)) a w := by
      intro A' R' F' e1 e2 e3 e4 e5 e6 e7 e8 hs
      refine wpOp_of ho (qone_step hfn hcx hi hs ?_)
      intro σ' a' w' st' rd' hR' hi'
      refine ih A' R' F' fuel (l.setIfInBounds x.1 true) a' w' σ' st' rd' e1 e2 e3 e4 (fun p hp => hck p (e5 p hp)) (by simpa using hl) ?_ ?_ ?_ e8 ?_ hi' hR'
      · rw [hset]
        intro y oy hoy hy n hn
        rcases hy with hy | rfl
        · exact .inl (hclo y oy hoy hy n hn)
        · rw [ho] at hoy; cases hoy
          exact .inl (h3 n hn)
      · rw [hset]
        intro y hy
        rcases hall y hy with h | h
        · exact .inl (.inl h)
        · rcases (e6 y).1 h with h | h
          · exact .inl (.inr h)
          · exact .inr h
      · rw [hset]
        intro y hy
        rintro (h | h)
        · exact hun y ((e6 y).2 (.inr hy)) h
        · subst h; exact e7 hy
      · have := und_set hklt hl h1
        omega
    rcases List.mem_append.1 hx with hxA | hxR
    · obtain ⟨A1, A2, rfl⟩ := List.append_of_mem hxA
      obtain ⟨p1, p2⟩ := chkPairs_spec hpA
      rw [List.append_assoc, List.cons_append] at hnd
      obtain ⟨d1, d2, d3⟩ := idx_out hnd
      rw [← List.append_assoc] at d1 d2 d3
      refine rest (A1 ++ A2) R F ?_ hF p2 ?_ ?_ ?_ d1 d2 (SV_move (TR_ok lf_ok) (fun y hy => chkPair_spec (p1 y hy) (hnb y (by simp [hy]))) hv)
      · simp only [List.length_append, List.length_cons] at hn ⊢; omega
      · intro y hy z hz
        exact hpR y (by simp only [List.mem_append, List.mem_cons] at hy ⊢; rcases hy with h | h; exact .inl h; exact .inr (.inr h)) z hz
      · intro p hp
        simp only [List.mem_append, List.mem_cons] at hp ⊢
        rcases hp with (h | h) | h
        · exact .inl (.inl h)
        · exact .inl (.inr (.inr h))
        · exact .inr h
      · intro k
        rw [List.append_assoc, List.cons_append]
        exact d3 k
    · obtain ⟨R1, R2, rfl⟩ := List.append_of_mem hxR
      obtain ⟨f0, F', rfl⟩ : ∃ f0 F', F = f0 :: F' := by
        cases F with
        | nil => simp at hF
        | cons f F' => exact ⟨f, F', rfl⟩
      have hnd' := hnd
      rw [← List.append_assoc] at hnd
      obtain ⟨d1, d2, d3⟩ := idx_out hnd
      rw [List.append_assoc] at d1 d2 d3
      have hne : ∀ y ∈ R1 ++ R2, (y.1 != x.1) = true := fun y hy => by
        refine bne_iff_ne.2 fun e => d1 ?_
        rw [← e]; exact List.mem_map_of_mem (List.mem_append_right _ hy)
      have hfil : (R1 ++ x :: R2).filter (fun y => y.1 != x.1) = R1 ++ R2 := by
        rw [List.filter_append, List.filter_cons_of_neg (by simp), List.filter_eq_self.2 fun y hy => hne y (by simp [hy]), List.filter_eq_self.2 fun y hy => hne y (by simp [hy])]
      have hmem : (x, R1 ++ R2) ∈ rdyL B (R1 ++ x :: R2) := by
        unfold rdyL
        refine List.mem_filterMap.2 ⟨x, by simp, ?_⟩
        rw [if_pos, hfil]
        refine List.all_eq_true.2 fun y hy => ?_
        rw [hnb y (List.mem_append_right _ hy)]; rfl
      have hs : SV P ρ (A ++ [x]) rd st.fr st.hp (TR P ρ B (lf Qp) F' (R1 ++ R2)) := SV_app (SV_mono (fun rd fr H h => h _ hmem) hv)
      have hs2 := SV_move (R2 := []) (TR_ok lf_ok) (fun y hy => chkPair_spec (hpR y hy x (by simp)) (hnb y (List.mem_append_left _ hy))) hs
      rw [List.append_nil] at hs2
      refine rest A (R1 ++ R2) F' ?_ ?_ hpA ?_ ?_ ?_ d1 d2 hs2
      · simp only [List.length_append, List.length_cons] at hn ⊢; omega
      · simp only [List.length_append, List.length_cons] at hF ⊢; omega
      · intro y hy z hz
        exact hpR y hy z (by simp only [List.mem_append, List.mem_cons] at hz ⊢; rcases hz with h | h; exact .inl h; exact .inr (.inr h))
      · intro p hp
        simp only [List.mem_append, List.mem_cons] at hp ⊢
        rcases hp with h | h | h
        · exact .inl h
        · exact .inr (.inl h)
        · exact .inr (.inr (.inr h))
      · intro k
        simpa only [List.append_assoc] using d3 k
theorem drt_sound {id : Nat} {Q : Exit → Act → World → Prop} {Qp : St → Prop} {A R : List SI} {σ : Nat → Nat} {w : World} {a : Act} {st : St}
  (hfn : ∀ f, fnOk P (ρ f) = true) (hm : P.follows .mixedOrders = true) (hc : chkDrt P ρ N ops A R B = true) (hi : Inv ρ σ₀ H₀ w₀ N σ a w st)
  (hv : sreg P ρ A [] st fun rd st' => trS P ρ B R R rd st' Qp)
  (hq : ∀ st' σ' a' w', Qp st' → Inv ρ σ₀ H₀ w₀ N σ' a' w' st' → Q .normal a' w') : (Code.region id ops true).wp P Q a w := by
 simp only [chkDrt, Bool.and_eq_true] at hc
 obtain ⟨⟨⟨⟨⟨hB, hnod⟩, hcov⟩, hck⟩, hpA⟩, hpR⟩ := hc
 rw [List.all_eq_true] at hcov hck hpR
 refine wp_region_any hm ?_
 have hun0 : ∀ k, ¬ Dn (Array.replicate ops.size false) k := by
  intro k
  unfold Dn
  by_cases h : k < ops.size <;> simp [h]
 have hi1 : Inv ρ σ₀ H₀ w₀ N σ a { w with drawn := w.drawn + 1 } st :=
  ⟨hi.f, ⟨⟨hi.s.h.at_, hi.s.h.sep, hi.s.h.clo⟩, ⟨hi.s.k.os, hi.s.k.tape, hi.s.k.output, hi.s.k.size, hi.s.k.old⟩, hi.s.len, hi.s.same, hi.s.rof, hi.s.fresh⟩, hi.sz, hi.df⟩
 refine phaseT hfn hB hq (A.length + R.length) A R R ops.size (Array.replicate ops.size false) a { w with drawn := w.drawn + 1 } σ st [] rfl rfl hpA (fun y hy x hx => List.all_eq_true.1 (hpR y hy) x hx) ?_ (by simp) (fun i o ho hD => (hun0 i hD).elim) ?_ (fun k _ => hun0 k) (nodupB_spec hnod) ?_ hi1 ?_
 ·intro p hp
  have := hck p hp
  split at this
  ·rename_i o ho; exact ⟨o, ho, this⟩
  ·cases this
 ·intro k hk
  have := hcov k (List.mem_range.2 hk)
  exact .inr (by simpa using this)
 ·unfold und
  have := List.length_filter_le (fun i => !(Array.replicate ops.size false).getD i false) (List.range ops.size)
  simpa using this
 ·exact sreg_SV (TR_ok lf_ok) (fun rd st h => trS_TR h) hv
end
end Hf
/- The second layer, part 5: code, functions, calls. -/
namespace Hf
open Go
inductive QC where
 | skip
 | ret
 | exit (id : Nat)
 | seq (a b : QC)
 | cond (x : Ar) (a b : QC)
 | blk (id : Nat) (c : QC)
 | loop (c : QC)
 | reg (ps : List QI)
 | drs (B : List Nat) (ps : List SI)
 | drf (B : List Nat) (A : List SI) (p q : SI) (T : List SI)
 | drt (B : List Nat) (A R : List SI)
 | cut (a b : QC)

def chkQC (P : Program) (ρ : Nat → FuncId) (N : Nat) : Code → QC → Bool
  | .skip, .skip => true
  | .ret, .ret => true
  | .exit id, .exit id' => id == id'
  | .seq a b, .seq a' b' => chkQC P ρ N a a' && chkQC P ρ N b b'
  | .seq a b, .cut a' b' => chkQC P ρ N a a' && chkQC P ρ N b b'
  | .cond c a b, .cond x a' b' => chkAr ρ c x && chkQC P ρ N a a' && chkQC P ρ N b b'
  | .block id c, .blk id' c' => id == id' && chkQC P ρ N c c'
  | .loop c, .loop c' => chkQC P ρ N c c'
  | .region _ ops draw, .reg ps => !draw && chkQReg P ρ N ops ops.toList ps
  | .region _ ops draw, .drs B ps => draw && chkDrs P ρ N ops ps B
  | .region _ ops draw, .drf B A p q T => draw && chkDrf P ρ N ops A p q T B
  | .region _ ops draw, .drt B A R => draw && chkDrt P ρ N ops A R B
  | _, _ => false

section
variable (P : Program) (ρ : Nat → FuncId)
def qSkip (st : St) (Q : Ex → St → Prop) : Prop := Q .norm st
def qRet (st : St) (Q : Ex → St → Prop) : Prop := Q .ret st
def qExit (id : Nat) (st : St) (Q : Ex → St → Prop) : Prop := Q (.exit id) st
def qSeq (_ _ : QC) (va vb : St → (Ex → St → Prop) → Prop) (st : St) (Q : Ex → St → Prop) : Prop := va st fun e st' => match e with
    | .norm => vb st' Q
    | .exit id => Q (.exit id) st'
    | .ret => Q .ret st'
def qCond (x : Ar) (_ _ : QC) (va vb : St → (Ex → St → Prop) → Prop) (st : St) (Q : Ex → St → Prop) : Prop := match st with
  | ⟨fr, hp⟩ => match ev fr x with
    | some (.one (.b c)) => brB c fun c => match c with
      | true => va ⟨fr, hp⟩ Q
      | false => vb ⟨fr, hp⟩ Q
    | _ => False
def qBlk (id : Nat) (_ : QC) (va : St → (Ex → St → Prop) → Prop) (st : St) (Q : Ex → St → Prop) : Prop := va st fun e st' => match e with
    | .norm => Q .norm st'
    | .exit id' => match Nat.beq id' id with
      | true => Q .norm st'
      | false => Q (.exit id') st'
    | .ret => Q .ret st'
def qLoop (_ : QC) (va : St → (Ex → St → Prop) → Prop) (st : St) (Q : Ex → St → Prop) : Prop :=
  ∃ (α : Type) (I : Nat → α → List (Nat × Sv)) (F : Nat → α → List Blk → Prop) (n : Nat), (∃ x, F 0 x st.hp ∧ leF (I 0 x) st.fr) ∧ ∀ i x H, i ≤ n → F i x H → va ⟨I i x, H⟩ fun e st' => match e with
    | .norm => i < n ∧ ∃ y, F (i + 1) y st'.hp ∧ leF (I (i + 1) y) st'.fr
    | .exit id => Q (.exit id) st'
    | .ret => Q .ret st'
noncomputable def qReg (ps : List QI) (st : St) (Q : Ex → St → Prop) : Prop := qreg P ρ ps st fun st' => Q .norm st'
noncomputable def qDrs (_ : List Nat) (ps : List SI) (st : St) (Q : Ex → St → Prop) : Prop := sreg P ρ ps [] st fun _ st' => Q .norm st'
noncomputable def qDrf (_ : List Nat) (A : List SI) (p q : SI) (T : List SI) (st : St) (Q : Ex → St → Prop) : Prop :=
 sreg P ρ A [] st fun rd st' => sreg P ρ (p :: q :: T) rd st' (fun _ st' => Q .norm st') ∧ sreg P ρ (q :: p :: T) rd st' (fun _ st' => Q .norm st')
noncomputable def qDrt (B : List Nat) (A R : List SI) (st : St) (Q : Ex → St → Prop) : Prop := sreg P ρ A [] st fun rd st' => trS P ρ B R R rd st' fun st'' => Q .norm st''
/-- the ways of the first part meet in what is told of the slots and the blocks -/
def qCut (_ _ : QC) (va vb : St → (Ex → St → Prop) → Prop) (st : St) (Q : Ex → St → Prop) : Prop :=
  ∃ (α : Type) (I : α → List (Nat × Sv)) (F : α → List Blk → Prop), (va st fun e st' => match e with
    | .norm => ∃ y, F y st'.hp ∧ leF (I y) st'.fr
    | .exit id => Q (.exit id) st'
    | .ret => Q .ret st') ∧ ∀ y H, F y H → vb ⟨I y, H⟩ Q
noncomputable def qc (c : QC) : St → (Ex → St → Prop) → Prop :=
 QC.rec (motive := fun _ => St → (Ex → St → Prop) → Prop) qSkip qRet qExit qSeq qCond qBlk qLoop (qReg P ρ) (qDrs P ρ) (qDrf P ρ) (qDrt P ρ) qCut c
end
section
variable {P : Program} {ρ : Nat → FuncId} {N : Nat} {σ₀ : Nat → Nat} {H₀ : List Blk} {w₀ : World}
theorem Inv.less {σ : Nat → Nat} {a : Act} {w : World} {fr : List (Nat × Sv)} {y : St} (hi : Inv ρ σ₀ H₀ w₀ N σ a w y) (hl : leF fr y.fr) : Inv ρ σ₀ H₀ w₀ N σ a w ⟨fr, y.hp⟩ := by
 refine ⟨⟨?_, ?_⟩, hi.s, hi.sz, hi.df⟩
 ·intro s v hv
  obtain ⟨p, -, -, e⟩ := leF_lk hl s v hv
  exact hi.f.val s v e
 ·intro s v hv
  obtain ⟨p, hp, rfl, e⟩ := leF_lk hl s v hv
  exact hi.f.clo s v e

theorem qc_sound (hfn : ∀ f, fnOk P (ρ f) = true) (hmo : P.follows .mixedOrders = true) : ∀ {pc : QC} {c : Code} {σ : Nat → Nat} {a : Act} {w : World} {st : St} {Qp : Ex → St → Prop} {Q : Exit → Act → World → Prop},
    chkQC P ρ N c pc = true → Inv ρ σ₀ H₀ w₀ N σ a w st → qc P ρ pc st Qp → (∀ e st' σ' a' w', Qp e st' → Inv ρ σ₀ H₀ w₀ N σ' a' w' st' → Q e.ex a' w') → c.wp P Q a w := by
  intro pc
  induction pc with
  | skip =>
    intro c σ a w st Qp Q hc hi hv hq
    cases c <;> first | (simp [chkQC] at hc; done) | skip
    exact wp_skip (hq .norm st σ a w hv hi)
  | ret =>
    intro c σ a w st Qp Q hc hi hv hq
    cases c <;> first | (simp [chkQC] at hc; done) | skip
    exact wp_ret (hq .ret st σ a w hv hi)
  | exit id =>
    intro c σ a w st Qp Q hc hi hv hq
    cases c <;> first | (simp [chkQC] at hc; done) | skip
    simp only [chkQC, beq_iff_eq] at hc; subst hc
    exact wp_exit (hq (.exit _) st σ a w hv hi)
  | seq x y ihx ihy =>
    intro c σ a w st Qp Q hc hi hv hq
    cases c <;> first | (simp [chkQC] at hc; done) | skip
    simp only [chkQC, Bool.and_eq_true] at hc
    refine wp_seq (ihx hc.1 hi hv ?_)
    intro e st' σ' a' w' hQ hi'
    cases e with
    | norm => exact ihy hc.2 hi' hQ hq
    | exit id => exact hq (.exit id) st' σ' a' w' hQ hi'
    | ret => exact hq .ret st' σ' a' w' hQ hi'
  | cond x a' b' iha ihb =>
    intro c σ a w st Qp Q hc hi hv hq
    cases c <;> first | (simp [chkQC] at hc; done) | skip
    simp only [chkQC, Bool.and_eq_true] at hc
    obtain ⟨⟨h1, h2⟩, h3⟩ := hc
    obtain ⟨fr, hp⟩ := st
    change qCond x a' b' (qc P ρ a') (qc P ρ b') ⟨fr, hp⟩ Qp at hv
    simp only [qCond] at hv
    split at hv
    · rename_i b he
      replace hv := brB_elim hv
      obtain ⟨e1, -⟩ := chkAr_sound h1 hi.f he
      cases b
      · exact wp_cond_false e1 (ihb h3 hi hv hq)
      · exact wp_cond_true e1 (iha h2 hi hv hq)
    · exact hv.elim
  | blk id c' ih =>
    intro c σ a w st Qp Q hc hi hv hq
    cases c <;> first | (simp [chkQC] at hc; done) | skip
    simp only [chkQC, Bool.and_eq_true, beq_iff_eq] at hc
    obtain ⟨rfl, hc⟩ := hc
    refine wp_block (ih hc hi hv ?_)
    intro e st' σ' a' w' hQ hi'
    cases e with
    | norm => exact hq .norm st' σ' a' w' hQ hi'
    | exit id' =>
      simp only [Ex.ex, Exit.inBlock]
      simp only at hQ
      split at hQ
      · rename_i hb
        have hb := Nat.eq_of_beq_eq_true hb
        rw [if_pos hb]
        exact hq .norm st' σ' a' w' hQ hi'
      · rename_i hb
        have hb := Nat.ne_of_beq_eq_false hb
        rw [if_neg hb]
        exact hq (.exit id') st' σ' a' w' hQ hi'
    | ret => exact hq .ret st' σ' a' w' hQ hi'
  | loop c' ih =>
    intro c σ a w st Qp Q hc hi hv hq
    cases c <;> first | (simp [chkQC] at hc; done) | skip
    simp only [chkQC] at hc
    obtain ⟨α, I, F, n, ⟨x0, hF, h0⟩, hr⟩ := hv
    refine wp_loop_n (fun i a w => ∃ x H σ, F i x H ∧ Inv ρ σ₀ H₀ w₀ N σ a w ⟨I i x, H⟩) n ⟨x0, st.hp, σ, hF, hi.less h0⟩ ?_
    rintro i hin a w ⟨x, H, σ, hF, hi⟩
    refine ih hc hi (hr i x H hin hF) ?_
    intro e st' σ' a' w' hQ hi'
    cases e with
    | norm =>
      obtain ⟨hlt, y, hFy, hle⟩ := hQ
      exact ⟨hlt, y, st'.hp, σ', hFy, hi'.less hle⟩
    | exit id => exact hq (.exit id) st' σ' a' w' hQ hi'
    | ret => exact hq .ret st' σ' a' w' hQ hi'
  | reg ps =>
    intro c σ a w st Qp Q hc hi hv hq
    cases c <;> first | (simp [chkQC] at hc; done) | skip
    simp only [chkQC, Bool.and_eq_true, Bool.not_eq_true'] at hc
    obtain ⟨rfl, hc⟩ := hc
    exact wp_region_list (qreg_sound hfn hc hi hv fun st' σ' a' w' hQ hi' => hq .norm st' σ' a' w' hQ hi')
  | drs B ps =>
    intro c σ a w st Qp Q hc hi hv hq
    cases c <;> first | (simp [chkQC] at hc; done) | skip
    simp only [chkQC, Bool.and_eq_true] at hc
    obtain ⟨rfl, hc⟩ := hc
    exact drs_sound hfn hmo hc hi hv fun st' σ' a' w' hQ hi' => hq .norm st' σ' a' w' hQ hi'
  | drf B A p q T =>
    intro c σ a w st Qp Q hc hi hv hq
    cases c <;> first | (simp [chkQC] at hc; done) | skip
    simp only [chkQC, Bool.and_eq_true] at hc
    obtain ⟨rfl, hc⟩ := hc
    exact drf_sound hfn hmo hc hi hv fun st' σ' a' w' hQ hi' => hq .norm st' σ' a' w' hQ hi'
  | drt B A R =>
    intro c σ a w st Qp Q hc hi hv hq
    cases c <;> first | (simp [chkQC] at hc; done) | skip
    simp only [chkQC, Bool.and_eq_true] at hc
    obtain ⟨rfl, hc⟩ := hc
    exact drt_sound hfn hmo hc hi hv fun st' σ' a' w' hQ hi' => hq .norm st' σ' a' w' hQ hi'
  | cut x y ihx ihy =>
    intro c σ a w st Qp Q hc hi hv hq
    cases c <;> first | (simp [chkQC] at hc; done) | skip
    simp only [chkQC, Bool.and_eq_true] at hc
    obtain ⟨α, I, F, h1, h2⟩ := hv
    refine wp_seq (ihx hc.1 hi h1 ?_)
    intro e st' σ' a' w' hQ hi'
    cases e with
    | norm =>
      obtain ⟨z, hF, hle⟩ := hQ
      exact ihy hc.2 (hi'.less hle) (h2 z st'.hp hF) hq
    | exit id => exact hq (.exit id) st' σ' a' w' hQ hi'
    | ret => exact hq .ret st' σ' a' w' hQ hi'
end
/-! ### functions -/
structure QF where
 np : Nat
 nt : Nat
 res : List PRes
 body : QC

def vresE (st : St) : List PRes → (List At → Prop) → Prop
  | [], K => K []
  | .t s :: r, K => match lk st.fr s with
    | some (.one a) => vresE st r fun l => K (a :: l)
    | _ => False
  | .c s h n :: r, K => match lk st.fr s with
    | some (.one (.pt k off)) => match h with
      | 0 => ∃ q hd N f g, st.hp[k]? = some ⟨q, .by hd N f⟩ ∧ (hd.length ≤ off ∧ off + n ≤ N) ∧ (∀ x, x < n → g x = f (off + x)) ∧ vresE st r fun l => K (.ag [] n g :: l)
      | _ + 1 => ∃ q hd N f, st.hp[k]? = some ⟨q, .by hd N f⟩ ∧ (off = 0 ∧ n ≤ N) ∧ vresE st r fun l => K (.ag hd n f :: l)
    | _ => False
  | .c1 s :: r, K => match lk st.fr s with
    | some (.one (.pt k off)) => ∃ q a, st.hp[k]? = some ⟨q, .vr a⟩ ∧ off = 0 ∧ vresE st r fun l => K (a :: l)
    | _ => False
section
variable {P : Program} {ρ : Nat → FuncId} {σ₀ : Nat → Nat} {H₀ : List Blk} {w₀ : World}
theorem run_vresE {w : World} {σ : Nat → Nat} {a : Act} {st : St} {N : Nat} (hi : Inv ρ σ₀ H₀ w₀ N σ a w st) : ∀ {rs : List ResultVar} {pr : List PRes} {K : List At → Prop}, chkRes P rs pr = true → vresE st pr K →
    ∃ l : List At, ((rs.mapM (m := Sem) (resOf a.tmps)).run P w = .ok (l.map (ren ρ σ)) w) ∧ K l ∧ l.length = pr.length ∧ ∀ b ∈ l, b.lt st.hp.length = true
  | [], [], K, _, hv => ⟨[], rfl, hv, rfl, by simp⟩
  | .tmp t :: r, .t s :: r', K, hc, hv => by
    simp only [chkRes, Bool.and_eq_true, beq_iff_eq] at hc
    obtain ⟨rfl, hc⟩ := hc
    simp only [vresE] at hv
    split at hv
    · rename_i b hb
      obtain ⟨l, h1, h2, h3, h4⟩ := run_vresE hi hc hv
      have e := hi.f.val _ _ hb
      have hl := hi.f.clo _ _ hb
      refine ⟨b :: l, ?_, h2, by simp [h3], ?_⟩
      · rw [List.mapM_cons]
        simp only [resOf, Sem.run_bind, Sem.run_pure, Result.andThen_ok, h1, List.map_cons]
        simp [e, renS]
      · intro c hc
        rcases List.mem_cons.1 hc with rfl | hc
        · exact hl
        · exact h4 c hc
    · exact hv.elim
  | .cell p t :: r, .c s h n :: r', K, hc, hv => by
    simp only [chkRes, Bool.and_eq_true, beq_iff_eq] at hc
    obtain ⟨⟨rfl, ht⟩, hc⟩ := hc
    simp only [vresE] at hv
    split at hv
    · rename_i k off hb
      have e := hi.f.val _ _ hb
      have main : ∀ (v : At), v.lt st.hp.length = true → (loadVar t ⟨σ k, off, none⟩).run P w = .ok (ren ρ σ v) w → vresE st r' (fun l => K (v :: l)) → ∃ l : List At, (((ResultVar.cell p t :: r).mapM (m := Sem) (resOf a.tmps)).run P w = .ok (l.map (ren ρ σ)) w) ∧ K l ∧ l.length = (PRes.c p h n :: r').length ∧ ∀ b ∈ l, b.lt st.hp.length = true := by
        intro v hvl hrun hv
        obtain ⟨l, h1, h2, h3, h4⟩ := run_vresE hi hc hv
        refine ⟨v :: l, ?_, h2, by simp [h3], ?_⟩
        · rw [List.mapM_cons]
          have e' : a.tmps.getD p undef = .pointer (some ⟨σ k, off, none⟩) := by simp [e, renS, ren]
          simp only [resOf, Sem.run_bind, e', asAddr_ptr, Sem.run_pure, Result.andThen_ok, hrun, h1, List.map_cons]
        · intro c hc
          rcases List.mem_cons.1 hc with rfl | hc
          · exact hvl
          · exact h4 c hc
      cases h with
      | zero =>
        obtain ⟨q, hd, N, f, g, hk, ⟨b1, b2⟩, hg, hv⟩ := hv
        obtain ⟨T, hT⟩ := blk_of hi.s.h hk
        refine main (.ag [] n g) rfl ?_ hv
        have := run_loadAgg (P := P) (off := off) (g := fun j => cel [] g j) ht hT (fun j hj => by
          rw [cellsB_by, cellsOf_get _ _ _ _ (by omega), cel_by (by omega), cel_by (by simp), hg j hj])
        rw [this]; rfl
      | succ h =>
        obtain ⟨q, hd, N, f, hk, ⟨rfl, b2⟩, hv⟩ := hv
        obtain ⟨T, hT⟩ := blk_of hi.s.h hk
        refine main (.ag hd n f) rfl ?_ hv
        have := run_loadAgg (P := P) (off := 0) (g := fun j => cel hd f j) ht hT (fun j hj => by
          rw [cellsB_by, Nat.zero_add, cellsOf_get _ _ _ _ (by omega)])
        rw [this]; rfl
    · exact hv.elim
  | .cell p t :: r, .c1 s :: r', K, hc, hv => by
    simp only [chkRes, Bool.and_eq_true, beq_iff_eq] at hc
    obtain ⟨⟨rfl, ht⟩, hc⟩ := hc
    simp only [vresE] at hv
    split at hv
    · rename_i k off hb
      have e := hi.f.val _ _ hb
      obtain ⟨q, v, hk, rfl, hv⟩ := hv
      obtain ⟨T, hT⟩ := blk_of hi.s.h hk
      obtain ⟨l, h1, h2, h3, h4⟩ := run_vresE hi hc hv
      have hcl := hi.s.h.clo k _ hk
      simp only [Bk.lt, Bool.and_eq_true] at hcl
      refine ⟨v :: l, ?_, h2, by simp [h3], ?_⟩
      · rw [List.mapM_cons]
        have e' : a.tmps.getD p undef = .pointer (some ⟨σ k, 0, none⟩) := by simp [e, renS, ren]
        have := run_loadOne (P := P) (off := 0) (v := ren ρ σ v) ht hT (by simp [cellsB])
        simp only [resOf, Sem.run_bind, e', asAddr_ptr, Sem.run_pure, Result.andThen_ok, this, h1, List.map_cons]
      · intro c hc
        rcases List.mem_cons.1 hc with rfl | hc
        · exact hcl.1
        · exact h4 c hc
    · exact hv.elim
  | [], _ :: _, _, hc, _ => by simp [chkRes] at hc
  | .tmp _ :: _, [], _, hc, _ => by simp [chkRes] at hc
  | .cell _ _ :: _, [], _, hc, _ => by simp [chkRes] at hc
  | .tmp _ :: _, .c _ _ _ :: _, _, hc, _ => by simp [chkRes] at hc
  | .tmp _ :: _, .c1 _ :: _, _, hc, _ => by simp [chkRes] at hc
  | .cell _ _ :: _, .t _ :: _, _, hc, _ => by simp [chkRes] at hc

end
def chkQF (P : Program) (ρ : Nat → FuncId) (f : Nat) (pf : QF) : Bool := match P.funcs[ρ f]? with
  | some fn => Nat.ble pf.np pf.nt && fn.ntmps == pf.nt && chkRes P fn.results.toList pf.res && match fn.body with
    | some c => chkQC P ρ pf.nt c pf.body
    | none => false
  | none => false

section
variable {P : Program} {ρ : Nat → FuncId}
theorem call_of_q {f : Nat} {pf : QF} {as : List At} {H : List Blk} {Rq : Sv → List Blk → Prop} (hfn : ∀ f, fnOk P (ρ f) = true) (hmo : P.follows .mixedOrders = true) (hc : chkQF P ρ f pf = true)
    (hn : as.length = pf.np)
    (hv : as.all (fun a => a.lt H.length) = true → H.all (fun B => B.c.lt H.length) = true → qc P ρ pf.body ⟨ents 0 as, H⟩ fun e st' => isEnd e = true ∧ vresE st' pf.res fun l => Rq (mkS l) st'.hp)
    (hl : as.all (fun a => a.lt H.length) = true) : CallR P ρ f as H Rq := by
  intro σ w hh
  have hH : H.all (fun B => B.c.lt H.length) = true := by
    rw [List.all_eq_true]
    intro B hB
    obtain ⟨k, hk, rfl⟩ := List.mem_iff_getElem.1 hB
    exact hh.clo k _ (by simp [hk])
  have hv := hv hl hH
  unfold chkQF at hc
  split at hc
  · rename_i fn hf
    simp only [Bool.and_eq_true, beq_iff_eq] at hc
    obtain ⟨⟨⟨h1, h2⟩, h3⟩, h4⟩ := hc
    have h1 := Nat.le_of_ble_eq_true h1
    split at h4
    · rename_i c hb
      rw [List.all_eq_true] at hl
      refine calls_of_wp hf hb ?_
      have hsz : ((as.map (ren ρ σ)).toArray ++ Array.replicate (fn.ntmps - (as.map (ren ρ σ)).toArray.size) undef).size = pf.nt := by simp; omega
      have hi : Inv ρ σ H w pf.nt σ { tmps := (as.map (ren ρ σ)).toArray ++ Array.replicate (fn.ntmps - (as.map (ren ρ σ)).toArray.size) undef, defers := [] } w ⟨ents 0 as, H⟩ := by
        refine ⟨⟨?_, ?_⟩, Sp.refl hh, hsz, rfl⟩
        · intro s u hu
          obtain ⟨a, e1, -, rfl⟩ := ents_lk hu
          rw [Nat.sub_zero] at e1
          have hs := (List.getElem?_eq_some_iff.1 e1).1
          simp only
          rw [Array.getElem?_append_left (by simpa using hs)]
          simp [e1, renS]
        · intro s u hu
          obtain ⟨a, e1, -, rfl⟩ := ents_lk hu
          exact hl a (List.mem_of_getElem? e1)
      refine qc_sound hfn hmo h4 hi hv ?_
      rintro e st' σ' a' w' ⟨he, hr⟩ hi'
      obtain ⟨l, r1, r2, r3, r4⟩ := run_vresE (P := P) hi' h3 hr
      have hres : (results fn a'.tmps).run P w' = .ok (renS ρ σ' (mkS l)) w' := by
        have hdef : results fn a'.tmps = (do
            let vs ← fn.results.mapM (resOf a'.tmps)
            pure (if h : vs.size = 1 then vs[0] else .tuple vs)) := rfl
        rw [hdef]
        have : (fn.results.mapM (m := Sem) (resOf a'.tmps)).run P w' = .ok (l.map (ren ρ σ')).toArray w' := by
          rw [Array.mapM_eq_mapM_toList, Sem.run_map, r1]; rfl
        rw [Sem.run_bind, this]
        simp only [Result.andThen_ok, Sem.run_pure]
        congr 1
        match l with
        | [] => rfl
        | [x] => rfl
        | x :: y :: r => simp [mkS, renS]
      have hlt : (mkS l).lt st'.hp.length = true := by
        match l with
        | [] => rfl
        | [x] => exact r4 x (by simp)
        | x :: y :: r => simp only [mkS, Sv.lt, List.all_eq_true]; exact r4
      have hfin : (fun e w' => ∃ v H' σ', Rq v H' ∧ e = Ending.returned (renS ρ σ' v) ∧ Sp ρ σ H w σ' H' w' ∧ v.lt H'.length = true) (.returned (renS ρ σ' (mkS l))) w' :=
        ⟨_, _, σ', r2, rfl, hi'.s, hlt⟩
      cases e with
      | norm => exact ⟨hi'.df, _, hres, hfin⟩
      | ret => exact ⟨hi'.df, _, hres, hfin⟩
      | exit id => cases he
    · cases h4
  · cases hc

/-! ### calls, weakened -/
/-- all blocks are there still -/
def Ext (H H' : List Blk) : Prop := ∀ (k : Nat) (B : Blk), H[k]? = some B → H'[k]? = some B
theorem Ext.refl {H : List Blk} : Ext H H := fun _ _ h => h
theorem Ext.trans {H H1 H2 : List Blk} (h : Ext H H1) (h' : Ext H1 H2) : Ext H H2 := fun k B e => h' k B (h k B e)
theorem Ext.app {H G : List Blk} : Ext H (H ++ G) := fun k B e => by
 rw [List.getElem?_append_left (List.getElem?_eq_some_iff.1 e).1]; exact e
theorem Ext.app' {H H1 G : List Blk} (h : Ext H H1) : Ext H (H1 ++ G) := h.trans Ext.app
theorem Ext.set {H H1 : List Blk} {k : Nat} {B : Blk} (h : Ext H H1) (hk : H.length ≤ k) : Ext H (H1.set k B) := fun j B' e => by
 have := (List.getElem?_eq_some_iff.1 e).1
 rw [List.getElem?_set_ne (by omega)]
 exact h j B' e
theorem Ext.len {H H' : List Blk} (h : Ext H H') : H.length ≤ H'.length := by
 rcases Nat.eq_zero_or_pos H.length with e | e
 ·omega
 ·have := h (H.length - 1) H[H.length - 1] (by simp [show H.length - 1 < H.length by omega])
  have := (List.getElem?_eq_some_iff.1 this).1
  omega

theorem CallR.mono {f : Nat} {as : List At} {H : List Blk} {Q Q' : Sv → List Blk → Prop} (h : CallR P ρ f as H Q) (hq : ∀ v H', Q v H' → Q' v H') : CallR P ρ f as H Q' := by
 intro σ w hh
 refine (h σ w hh).mono ?_
 rintro e w' ⟨v, H', σ', h1, h2, h3, h4⟩
 exact ⟨v, H', σ', hq _ _ h1, h2, h3, h4⟩

/-- what was new is forgotten -/
theorem CallR.drop {f : Nat} {as : List At} {H : List Blk} {R : Sv → Prop} (h : CallR P ρ f as H fun v H' => R v ∧ Ext H H') (hR : ∀ v, R v → v.lt H.length = true) : CallR P ρ f as H fun v H' => R v ∧ H' = H := by
 intro σ w hh
 refine (h σ w hh).mono ?_
 rintro e w' ⟨v, H', σ', ⟨h1, hx⟩, h2, h3, h4⟩
 have hlen := hx.len
 refine ⟨v, H, σ', ⟨h1, rfl⟩, h2, ⟨⟨?_, ?_, ?_⟩, h3.k, Nat.le_refl _, h3.same, ?_, ?_⟩, hR v h1⟩
 ·intro k B hB
  exact h3.h.at_ k B (hx k B hB)
 ·intro j k B hjk hk hB hro
  exact h3.h.sep j k B hjk (by omega) (hx j B hB) hro
 ·exact hh.clo
 ·intro k B B' e e'
  rw [e] at e'; cases e'; rfl
 ·intro k h1 h2
  omega

/-- the state at the return says which value, all blocks are as they were -/
theorem CallR.pure {f : Nat} {as : List At} {H : List Blk} {v : Sv} (h : CallR P ρ f as H fun u H' => u = v ∧ Ext H H') (hv : v.lt H.length = true) : CallR P ρ f as H fun u H' => u = v ∧ H' = H :=
 h.drop (R := fun u => u = v) fun u e => by rw [e]; exact hv
end
end Hf
