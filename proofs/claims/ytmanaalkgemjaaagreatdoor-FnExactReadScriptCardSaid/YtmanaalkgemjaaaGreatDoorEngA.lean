import GoSem.Step
import Derived.Calls
import Derived.Orders
import Derived.Below
import Derived.Laws.AppendOwn
import Derived.Laws.Sem
import Derived.Laws.Strings
import Derived.Laws.Cells
import Derived.Laws.Entries
import Derived.Laws.OwnMore
import Derived.Laws.MakeOwn
import Derived.Deep.MidRow
import Derived.Maps.AppendAt
import Derived.Laws.Small
import Derived.Laws.StructEq
import Derived.Laws.BytesArg
/- An interpreter of the program's code over plain values is sound: what it answers is what the call answers (part A). Conditions: none beyond each theorem's own. -/
set_option linter.unusedVariables false
section
namespace Go.Eng
inductive Ty where
  | int (k : IntKind) | bool | str | list (t : Ty) | unit | pair (a b : Ty)
  /-- a name: one cell, of which nothing is known -/
  | nm
  /-- a list that is owned, in a cell; its elements' type e -/
  | ols (e : Nat) (t : Ty)
  /-- the same, which may have left -/
  | olq (e : Nat) (t : Ty)
  deriving DecidableEq
@[reducible] def Ty.den : Ty → Type
  | .int _ => Int | .bool => Bool | .str => ByteArray | .list t => List t.den | .unit => Unit | .pair a b => a.den × b.den | .nm => Nat | .ols _ t => List t.den | .olq _ t => Option (List t.den)
def Ty.w : Ty → Nat
  | .unit => 0 | .pair a b => a.w + b.w | _ => 1
def Ty.dflt : (t : Ty) → t.den
  | .int _ => (0 : Int) | .bool => false | .str => (⟨#[]⟩ : ByteArray) | .list _ => [] | .unit => () | .pair a b => (a.dflt, b.dflt) | .nm => (0 : Nat) | .ols _ _ => [] | .olq _ _ => none
def Ty.erase : Ty → Ty
  | .list t => .list t.erase | .ols _ t => .list t.erase | .pair a b => .pair a.erase b.erase
  | .int k => .int k | .bool => .bool | .str => .str | .unit => .unit | .nm => .nm | .olq e t => .olq e t
theorem Ty.den_erase : ∀ t : Ty, t.erase.den = t.den
  | .list t => congrArg List (den_erase t)
  | .ols _ t => congrArg List (den_erase t)
  | .pair a b => by show (a.erase.den × b.erase.den) = (a.den × b.den); rw [den_erase a, den_erase b]
  | .int _ => rfl | .bool => rfl | .str => rfl | .unit => rfl | .nm => rfl | .olq _ _ => rfl
def Ty.er (t : Ty) (x : t.den) : t.erase.den := cast t.den_erase.symm x
def Ty.ers (t : Ty) (x : List t.den) : List t.erase.den := cast (congrArg List t.den_erase.symm) x
def Ty.hasO : Ty → Bool
  | .ols _ _ => true | .olq _ _ => true | .pair a b => a.hasO || b.hasO | _ => false
def Ty.hasL : Ty → Bool
  | .list _ => true | .ols _ t => t.hasL | .olq _ t => t.hasL | .pair a b => a.hasL || b.hasL | _ => false
def Ty.q : Ty → Ty
  | .ols e t => .olq e t | .pair a b => .pair a.q b.q | .list t => .list t
  | .int k => .int k | .bool => .bool | .str => .str | .unit => .unit | .nm => .nm | .olq e t => .olq e t
def Ty.toq : (t : Ty) → t.den → t.q.den
  | .ols _ _, xs => some xs | .pair a b, x => (a.toq x.1, b.toq x.2) | .list _, x => x
  | .int _, x => x | .bool, x => x | .str, x => x | .unit, x => x | .nm, x => x | .olq _ _, x => x
def Ty.hasQ : Ty → Bool
  | .olq _ _ => true | .pair a b => a.hasQ || b.hasQ | _ => false
def Ty.noq : Ty → Bool
  | .olq _ _ => false | .pair a b => a.noq && b.noq | .ols _ t => t.noq | _ => true
def Ty.left : (t : Ty) → t.den → t.den
  | .olq _ _, _ => none | .pair a b, x => (a.left x.1, b.left x.2)
  | .list _, x => x | .int _, x => x | .bool, x => x | .str, x => x | .unit, x => x | .nm, x => x | .ols _ _, x => x
def Ty.olsTy : Ty → Nat → Option (Nat × Ty)
  | .ols e t, 0 => some (e, t)
  | .pair a b, off => if off < a.w then a.olsTy off else b.olsTy (off - a.w)
  | _, _ => none
structure OL where
  e : Nat
  u : Ty
  ys : List u.den
def Ty.getO : (t : Ty) → t.den → Nat → Option OL
  | .ols e u, ys, 0 => some ⟨e, u, ys⟩
  | .pair a b, x, off => if off < a.w then a.getO x.1 off else b.getO x.2 (off - a.w)
  | _, _, _ => none
def Ty.putO : (t : Ty) → t.den → Nat → OL → t.den
  | .ols _ u, ys, 0, o => if h : o.u = u then h ▸ o.ys else ys
  | .pair a b, x, off, o => if off < a.w then (a.putO x.1 off o, x.2) else (x.1, b.putO x.2 (off - a.w) o)
  | _, x, _, _ => x
structure Ref where
  s : Nat
  j : Nat
  g : Nat
  v : Nat
inductive View where
  | whole | sub (lo hi : Int)
inductive AV where
  | dead
  | int (k : IntKind) (n : Int)
  | bool (b : Bool)
  | str (s : ByteArray)
  | nils
  | nilp
  | il (b : Bool) (t : Ty) (xs : List t.den)
  | ol (r : Ref) (v : View)
  | ptr (r : Ref) (off : Nat)
  | ep (r : Ref) (i : Int) (off : Nat)
  | ip (b : Bool) (t : Ty) (xs : List t.den) (i : Int) (off : Nat)
  | fn (f : Nat) (caps : List AV)
  | nm (n : Nat)
  /-- the own list in the cell off of the row i of an own list, as long as the own lists in cells have the age k -/
  | nl (r : Ref) (k : Nat) (i : Int) (off : Nat)
  /-- a pointer into it -/
  | np (r : Ref) (k : Nat) (i : Int) (off : Nat) (j : Int) (off2 : Nat)
  | agg (cs : List AV)
  | tup (vs : List AV)
inductive Ob where
  | gone
  | box (cs : List AV)
  | lst (z : Bool) (e : Nat) (t : Ty) (xs : List t.den)
def live : Ob → Bool
  | .gone => false
  | _ => true
structure Slot where
  g : Nat
  os : List (Nat × Ob)
def Slot.none : Slot := ⟨0, []⟩
abbrev Upd := List (Nat × Slot)
def look : Upd → Nat → Slot
  | [], _ => .none
  | (s', x) :: u, s => match Nat.beq s' s with | true => x | false => look u s
def put : Upd → Nat → Slot → Upd
  | [], s, x => [(s, x)]
  | (s', y) :: u, s, x => match Nat.beq s' s with | true => (s, x) :: u | false => (s', y) :: put u s x
structure St where
  tmps : List AV
  objs : Upd
def nth {α : Type} (d : α) : List α → Nat → α
  | [], _ => d
  | x :: _, 0 => x
  | _ :: xs, n + 1 => nth d xs n
def setNth {α : Type} : List α → Nat → α → List α
  | [], _, _ => []
  | _ :: xs, 0, y => y :: xs
  | x :: xs, n + 1, y => x :: setNth xs n y
abbrev Get := Nat → Slot
def Get.ob (get : Get) (r : Ref) : Ob :=
  match Nat.beq (get r.s).g r.g with
  | true => match nth (0, .gone) (get r.s).os r.j with
    | (v, o) => match Nat.beq v r.v with
      | true => o
      | false => .gone
  | false => .gone
def Upd.at (get : Get) : Upd → Get
  | [], s => get s
  | (s', x) :: u, s => match Nat.beq s' s with | true => x | false => Upd.at get u s
def Upd.next (get : Get) (u : Upd) (r : Ref) (o : Ob) : Upd :=
  (r.s, ⟨r.g, setNth (Upd.at get u r.s).os r.j (r.v + 1, o)⟩) :: u
def Upd.same (get : Get) (u : Upd) (r : Ref) (o : Ob) : Upd :=
  (r.s, ⟨r.g, setNth (Upd.at get u r.s).os r.j (r.v, o)⟩) :: u
def Ref.is (a b : Ref) : Bool := Nat.beq a.s b.s && Nat.beq a.j b.j
def Ref.among (a : Ref) : List Ref → Bool
  | [] => false
  | b :: bs => a.is b || a.among bs
def Ref.apart : List Ref → Bool
  | [] => true
  | a :: r => !a.among r && Ref.apart r
def AV.sure : AV → Bool
  | .dead => false
  | .tup _ => false
  | .fn _ (_ :: _) => false
  | _ => true
def AV.cells : AV → List AV
  | .agg cs => cs
  | v => [v]
def rowCells (b : Bool) : (t : Ty) → t.den → List AV
  | .int k, n => [.int k n]
  | .bool, b => [.bool b]
  | .str, s => [.str s]
  | .list t, xs => [.il b t xs]
  | .unit, _ => []
  | .pair s t, x => rowCells b s x.1 ++ rowCells b t x.2
  | .nm, n => [.nm n]
  | .ols _ _, _ => [.dead]
  | .olq _ _, _ => [.dead]
def rowCellsE (r : Ref) (k : Nat) (i : Int) : (off : Nat) → (t : Ty) → t.den → List AV
  | off, .ols _ _, _ => [.nl r k i off]
  | off, .pair a b, x => rowCellsE r k i off a x.1 ++ rowCellsE r k i (off + a.w) b x.2
  | _, .int k, n => [.int k n]
  | _, .bool, b => [.bool b]
  | _, .str, s => [.str s]
  | _, .list t, xs => [.il false t xs]
  | _, .unit, _ => []
  | _, .nm, n => [.nm n]
  | _, .olq _ _, _ => [.dead]
def SHG : Nat := 4000
def Ty.flat : Ty → Bool
  | .list _ => false
  | .ols _ _ => false
  | .olq _ _ => false
  | .pair a b => a.flat && b.flat
  | _ => true
def View.lo : View → Nat
  | .whole => 0
  | .sub lo _ => lo.toNat
def View.len (n : Nat) : View → Int
  | .whole => n
  | .sub lo hi => hi - lo
def view {α : Type} (xs : List α) : View → List α
  | .whole => xs
  | .sub lo hi => (xs.take hi.toNat).drop lo.toNat
section
variable {ρ : Type}
def imm (get : Get) : (t : Ty) → AV → (t.den → List Ref → Option ρ) → Option ρ
  | .int k, .int k' n, K => if k' = k then K n [] else none
  | .bool, .bool b, K => K b []
  | .str, .str s, K => K s []
  | .list t, .il false t' xs, K => if h : t' = t then K (h ▸ xs) [] else none
  | .list _, .nils, K => K [] []
  | .list t, .ol r v, K => match get.ob r with
    | .lst _ _ t' xs => if h : t' = t ∧ t.hasO = false then K (view (h.1 ▸ xs) v) [r] else none
    | _ => none
  | .nm, .nm n, K => K n []
  | .nm, .nils, K => K (0 : Nat) []
  | .ols _ _, .nils, K => K [] []
  | .ols e t, .ol r .whole, K => match get.ob r with
    | .lst false e' t' xs => if h : t' = t then (match Nat.beq e' e with
      | true => K (h ▸ xs) [r]
      | false => none) else none
    | _ => none
  | _, _, _ => none
def toRow (get : Get) : (t : Ty) → List AV → (t.den → List Ref → Option ρ) → Option ρ
  | .unit, [], K => K () []
  | .pair a b, cs, K => toRow get a (cs.take a.w) fun x ks => toRow get b (cs.drop a.w) fun y ks' => K (x, y) (ks ++ ks')
  | .int k, [v], K => imm get (.int k) v K
  | .bool, [v], K => imm get .bool v K
  | .str, [v], K => imm get .str v K
  | .list t, [v], K => imm get (.list t) v K
  | .nm, [v], K => imm get .nm v K
  | .ols e t, [v], K => imm get (.ols e t) v K
  | _, _, _ => none
def putRow (get : Get) : (t : Ty) → t.den → Nat → List AV → (t.den → List Ref → Option ρ) → Option ρ
  | .pair a b, x, off, cs, K =>
    if off = 0 ∧ cs.length = (Ty.pair a b).w then toRow get (.pair a b) cs K
    else if off < a.w then putRow get a x.1 off cs fun y ks => K (y, x.2) ks
    else putRow get b x.2 (off - a.w) cs fun y ks => K (x.1, y) ks
  | t, _, 0, cs, K => toRow get t cs K
  | _, _, _, _, _ => none
def toRows (get : Get) (t : Ty) : List AV → (List t.den → List Ref → Option ρ) → Option ρ
  | [], K => K [] []
  | v :: vs, K => match v.sure with
    | true => toRow get t v.cells fun x ks => toRows get t vs fun xs ks' => K (x :: xs) (ks ++ ks')
    | false => none
end
def kills (get : Get) : List Ref → Upd → Upd
  | [], u => u
  | r :: rs, u => kills get rs (Upd.next get u r .gone)
inductive TK where
  | other | int (k : IntKind) | bool | str | slice (e : Nat) (ty : Ty)
  /-- n elements of one cell each, of the type e -/
  | arr (e n : Nat)
structure TI where
  agg : Bool
  w : Nat
  zero : List AV
  offs : List (Nat × Nat)
  kind : TK
  eqk : List Ty
def TI.none : TI := ⟨false, 0, [], [], .other, []⟩
def capMax : Nat := 274877906944
abbrev TT := List (Nat × TI)
def TT.at : TT → Nat → TI
  | [], _ => .none
  | (t, i) :: r, n => match Nat.beq t n with | true => i | false => TT.at r n
def constAV : Value → AV
  | .int k n => .int k n
  | .bool b => .bool b
  | .string s => .str s
  | .slice none 0 0 => .nils
  | .pointer none => .nilp
  | _ => .dead
def St.ev (A : St) : Operand → AV
  | .tmp t => nth .dead A.tmps t
  | .const v => constAV v
  | .func f => .fn f []
  | .global _ => .dead
def bt (s : ByteArray) (i : Int) : Int := if h : i.toNat < s.size then ((s[i.toNat]'h).toNat : Int) else 0
def strOf (xs : List Int) : ByteArray := ⟨(xs.map fun x => UInt8.ofNat x.toNat).toArray⟩
def bytesOf (s : ByteArray) : List Int := s.data.toList.map fun b => (b.toNat : Int)
def Ty.rd {t : Ty} (xs : List t.den) (i : Int) : t.den := xs.getD i.toNat t.dflt
def bitsI (op : BinOp) (k : IntKind) (x y : Int) : Int :=
  let a := BitVec.ofInt k.bits x
  let b := BitVec.ofInt k.bits y
  match op with
  | .and => k.wrap (a &&& b).toNat
  | .or => k.wrap (a ||| b).toNat
  | .xor => k.wrap (a ^^^ b).toNat
  | _ => k.wrap (a &&& ~~~b).toNat
def intBin {ρ : Type} (op : BinOp) (k : IntKind) (x y : Int) (K : AV → Option ρ) : Option ρ :=
  match op with
  | .add => K (.int k (k.wrap (x + y)))
  | .sub => K (.int k (k.wrap (x - y)))
  | .mul => K (.int k (k.wrap (x * y)))
  | .quo => if y = 0 then none else K (.int k (k.wrap (x.tdiv y)))
  | .rem => if y = 0 then none else K (.int k (x.tmod y))
  | .and => K (.int k (bitsI .and k x y))
  | .or => K (.int k (bitsI .or k x y))
  | .xor => K (.int k (bitsI .xor k x y))
  | .andNot => K (.int k (bitsI .andNot k x y))
  | .eql => K (.bool (decide (x = y)))
  | .neq => K (.bool (!decide (x = y)))
  | .lss => K (.bool (decide (x < y)))
  | .leq => K (.bool (decide (x ≤ y)))
  | .gtr => K (.bool (decide (y < x)))
  | .geq => K (.bool (decide (y ≤ x)))
  | _ => none
def shiftBin {ρ : Type} (op : BinOp) (k : IntKind) (x y : Int) (K : AV → Option ρ) : Option ρ :=
  match op with
  | .shl => if y < 0 then none else K (.int k (k.wrap (x * 2 ^ min y.toNat k.bits)))
  | .shr => if y < 0 then none else K (.int k (x.fdiv (2 ^ min y.toNat k.bits)))
  | _ => none
def maxStr : Nat := 9223372036854775807
def strBin {ρ : Type} (op : BinOp) (x y : ByteArray) (K : AV → Option ρ) : Option ρ :=
  match op with
  | .add => if x.size + y.size ≤ maxStr then K (.str (x ++ y)) else none
  | .eql => K (.bool (decide (x = y)))
  | .neq => K (.bool (!decide (x = y)))
  | _ => none
def avEq : AV → AV → Option Bool
  | .int k a, .int k' b => if k = k' then some (decide (a = b)) else none
  | .bool a, .bool b => some (decide (a = b))
  | .str a, .str b => some (decide (a = b))
  | _, _ => none
def fit : Ty → AV → Bool
  | .int k, .int k' _ => decide (k = k')
  | .bool, .bool _ => true
  | .str, .str _ => true
  | _, _ => false
def fits : List Ty → List AV → Bool
  | [], [] => true
  | t :: ts, a :: as => fit t a && fits ts as
  | _, _ => false
def cellsEq : List AV → List AV → Option Bool
  | [], [] => some true
  | [a], [b] => avEq a b
  | a :: as, b :: bs => match avEq a b, cellsEq as bs with
    | some x, some y => some (x && y)
    | _, _ => none
  | _, _ => none
end Go.Eng
end

section
namespace Go.Eng
abbrev CallF (ρ : Type) := (f : Nat) → List AV → Get → (d : Nat) → (AV → Upd → Option ρ) → Option ρ
def newOb {ρ : Type} (get : Get) (d : Nat) (o : Ob) (K : Ref → Upd → Option ρ) : Option ρ := K ⟨d, 0, (get d).g + 1, 0⟩ [(d, ⟨(get d).g + 1, [(0, o)]⟩)]
def sliceIdx {ρ : Type} (len bound : Int) (lo hi : Option AV) (K : Int → Int → Option ρ) : Option ρ :=
  match lo, hi with
  | none, none => K 0 len
  | some (.int _ l), none => if 0 ≤ l ∧ l ≤ len then K l len else none
  | none, some (.int _ h) => if 0 ≤ h ∧ h ≤ bound then K 0 h else none
  | some (.int _ l), some (.int _ h) => if 0 ≤ h ∧ h ≤ bound then (if 0 ≤ l ∧ l ≤ h then K l h else none) else none
  | _, _ => none
def nlOf (get : Get) (r : Ref) (k : Nat) (i : Int) (off : Nat) : Option OL :=
  match Nat.beq (get SHG).g k with
  | true => match get.ob r with
    | .lst _ _ t xs => t.getO (Ty.rd xs i) off
    | _ => none
  | false => none
def lenOf (get : Get) (k : TK) (v : AV) : Option Int :=
  match k, v with
  | .str, .str s => some s.size
  | .slice _ _, .nils => some 0
  | .slice _ _, .il _ _ xs => some xs.length
  | .slice _ _, .ol r vw => match get.ob r with | .lst _ _ _ xs => some (vw.len xs.length) | _ => none
  | .slice _ _, .nl r k i off => match nlOf get r k i off with | some o => some o.ys.length | none => none
  | _, _ => none
section
variable {ρ : Type}
def rowsOf (get : Get) (t : Ty) (v : AV) (K : List t.den → Option ρ) : Option ρ :=
  match v with
  | .nils => K []
  | .il b t' xs => match !b || t.flat with
    | true => if h : t' = t then K (h ▸ xs) else none
    | false => none
  | .ol r vw => match get.ob r with
    | .lst _ _ t' xs => if h : t' = t then K (view (h ▸ xs) vw) else none
    | _ => none
  | .str s => if h : t = .int .u8 then K (h ▸ bytesOf s) else none
  | _ => none
def appendK (get : Get) (d e : Nat) (t : Ty) (cap : Nat) (s : AV) (ys : List t.den) (K : AV → Upd → Option ρ) : Option ρ :=
  match s with
  | .nils => if ys.length ≤ cap then newOb get d (.lst false e t ys) fun r u => K (.ol r .whole) u else none
  | .ol r .whole => match get.ob r with
    | .lst z e' t' xs => if h : t' = t then (match Nat.beq e' e with
      | true => if xs.length + ys.length ≤ cap then K (.ol ⟨r.s, r.j, r.g, r.v + 1⟩ .whole) (Upd.next get [] r (.lst z e t ((h ▸ xs) ++ ys))) else none
      | false => none) else none
    | _ => none
  | .ol r (.sub lo hi) => match get.ob r with
    | .lst z e' t' xs => if h : t' = t then (match Nat.beq e' e with
      | true => if hi + ys.length ≤ xs.length ∧ hi - lo + ys.length ≤ cap then K (.ol r (.sub lo (hi + ys.length))) (Upd.same get [] r (.lst z e t (List.take hi.toNat (h ▸ xs) ++ (ys ++ List.drop (hi.toNat + ys.length) (h ▸ xs))))) else none
      | false => none) else none
    | _ => none
  | _ => none
def appendT (get : Get) (d e : Nat) (t : Ty) (cap : Nat) (s x : AV) (K : AV → Upd → Option ρ) : Option ρ :=
  match x with
  | .ol r' .whole => match get.ob r' with
    | .lst false e2 t2 ys => if h2 : t2 = t then (match Nat.beq e2 e with
      | true => (match s with
        | .nils => if ys.length ≤ cap then newOb get d (.lst false e t (h2 ▸ ys)) fun r u => K (.ol r .whole) (u ++ kills get [r'] []) else none
        | .ol r .whole => match get.ob r with
          | .lst z e' t' xs => if h : t' = t then (match Nat.beq e' e && !(r.is r') with
            | true => if xs.length + ys.length ≤ cap then K (.ol ⟨r.s, r.j, r.g, r.v + 1⟩ .whole) (Upd.next get (kills get [r'] []) r (.lst z e t ((h ▸ xs) ++ (h2 ▸ ys)))) else none
            | false => none) else none
          | _ => none
        | .ol r (.sub lo hi) => match get.ob r with
          | .lst z e' t' xs => if h : t' = t then (match Nat.beq e' e && !(r.is r') with
            | true => if hi = (xs.length : Int) ∧ xs.length + ys.length ≤ cap then K (.ol ⟨r.s, r.j, r.g, r.v + 1⟩ .whole) (Upd.next get (kills get [r'] []) r (.lst z e t (List.drop lo.toNat (h ▸ xs) ++ (h2 ▸ ys)))) else none
            | false => none) else none
          | _ => none
        | _ => none)
      | false => none) else none
    | _ => none
  | _ => none
def zeroRow (T : TT) (t : Nat) (get : Get) (ty : Ty) (K : ty.den → Option ρ) : Option ρ :=
  match (T.at t).zero with
  | [] => none
  | z :: zs => toRow get ty (z :: zs) fun x ks => match ks with
    | [] => K x
    | _ => none
def boxInts (k : IntKind) : List AV → (List Int → Option ρ) → Option ρ
  | [], K => K []
  | .int k' n :: r, K => if k' = k then boxInts k r fun xs => K (n :: xs) else none
  | _, _ => none
def loadK (T : TT) (get : Get) (t : Nat) (a : AV) (K : AV → Option ρ) : Option ρ :=
  let i := T.at t
  let give (cs : List AV) : Option ρ := match Nat.ble 1 i.w && Nat.ble i.w cs.length with
    | true => (match i.agg with
      | true => K (.agg (cs.take i.w))
      | false => match cs with | c :: _ => K c | [] => none)
    | false => none
  match a with
  | .ptr r off => match get.ob r with
    | .box cs => give (cs.drop off)
    | _ => none
  | .ep r ix off => match get.ob r with
    | .lst _ _ t0 xs => give ((rowCellsE r (get SHG).g ix 0 t0 (Ty.rd xs ix)).drop off)
    | .box cs => (match i.kind with
      | .int k => boxInts k (cs.drop off) fun xs => if ix < (xs.length : Int) then K (.int k (Ty.rd (t := .int k) xs ix)) else none
      | _ => none)
    | _ => none
  | .ip b t0 xs ix off => give ((rowCells b t0 (Ty.rd xs ix)).drop off)
  | .np r k i off j off2 => match nlOf get r k i off with
    | some o => give ((rowCells false o.u (Ty.rd o.ys j)).drop off2)
    | none => none
  | _ => none
def rowLeave (d g : Nat) : (t : Ty) → t.den → Nat → (List AV → List (Nat × Ob) → Option ρ) → Option ρ
  | .olq e t, x, j, K => x.bind fun xs => K [.ol ⟨d, j, g, 0⟩ .whole] [(0, .lst false e t xs)]
  | .pair a b, x, j, K => rowLeave d g a x.1 j fun cs os => rowLeave d g b x.2 (j + os.length) fun cs' os' => K (cs ++ cs') (os ++ os')
  | .int k, n, _, K => K [.int k n] []
  | .bool, b, _, K => K [.bool b] []
  | .str, s, _, K => K [.str s] []
  | .list t, xs, _, K => K [.il false t xs] []
  | .nm, n, _, K => K [.nm n] []
  | .unit, _, _, K => K [] []
  | .ols _ _, _, _, _ => none
def leaveK (T : TT) (get : Get) (d t : Nat) (a : AV) (K : AV → Upd → Option ρ) (K' : Option ρ) : Option ρ :=
  match a with
  | .ep r ix 0 => match get.ob r with
    | .lst z e t0 xs => match t0.hasQ with
      | true => (match (T.at t).agg && (Nat.beq (T.at t).w t0.w && !(Nat.beq r.s d || Nat.beq d SHG)) with
        | true => rowLeave d ((get d).g + 1) t0 (Ty.rd xs ix) 0 fun cs os => K (.agg cs) ((d, ⟨(get d).g + 1, os⟩) :: Upd.same get [] r (.lst z e t0 (xs.set ix.toNat (t0.left (Ty.rd xs ix)))))
        | false => none)
      | false => K'
    | _ => K'
  | _ => K'
def setCells : List AV → Nat → List AV → List AV
  | cs, _, [] => cs
  | cs, off, v :: vs => setCells (setNth cs off v) (off + 1) vs
def storeK (get : Get) (a v : AV) (K : Upd → Option ρ) : Option ρ :=
  match a with
  | .ptr r off => match get.ob r with
    | .box cs => match Nat.ble (off + v.cells.length) cs.length with
      | true => K (Upd.same get [] r (.box (setCells cs off v.cells)))
      | false => none
    | _ => none
  | .ep r ix off => match get.ob r with
    | .lst z e t0 xs => match t0.hasO with
      | false => putRow get t0 (Ty.rd xs ix) off v.cells fun x ks => match Ref.apart (r :: ks) with
        | true => K (Upd.same get (kills get ks []) r (.lst z e t0 (xs.set ix.toNat x)))
        | false => none
      | true => match Nat.beq r.s SHG || t0.hasL with
        | false => putRow get t0 (Ty.rd xs ix) off v.cells fun x ks => match Ref.apart (r :: ks) with
          | true => K ((SHG, ⟨(get SHG).g + 1, []⟩) :: Upd.same get (kills get ks []) r (.lst z e t0 (xs.set ix.toNat x)))
          | false => none
        | true => none
    | _ => none
  | .np r k i off j off2 => match nlOf get r k i off with
    | some o => (match o.u.flat with
      | true => putRow get o.u (Ty.rd o.ys j) off2 v.cells fun y _ => (match get.ob r with
        | .lst z e t0 xs => K (Upd.same get [] r (.lst z e t0 (xs.set i.toNat (t0.putO (Ty.rd xs i) off ⟨o.e, o.u, o.ys.set j.toNat y⟩))))
        | _ => none)
      | false => none)
    | none => none
  | _ => none
def nth? {α : Type} : List α → Nat → Option α
  | [], _ => none
  | x :: _, 0 => some x
  | _ :: xs, n + 1 => nth? xs n
def buildK (T : TT) (offs : List (Nat × Nat)) (cs : List AV) (ps : List (Nat × AV)) (K : List AV → Option ρ) : Option ρ :=
  match ps with
  | [] => K cs
  | (i, v) :: r => match nth? offs i with
    | some (off, ft) => match Nat.beq v.cells.length (T.at ft).w && Nat.ble (off + v.cells.length) cs.length with
      | true => match v.sure && Nat.ble 1 (T.at ft).w with
        | true => buildK T offs (setCells cs off v.cells) r K
        | false => none
      | false => none
    | none => none
def appOk (x : AV) (t t' : Nat) (k : TK) : Bool :=
  match x, k with
  | .str _, .str => true
  | .str _, _ => false
  | _, _ => Nat.beq t t'
def partsRows : Nat → List (Nat × AV) → Option (List AV)
  | _, [] => some []
  | n, (i, v) :: r => match Nat.beq i n with
    | true => (partsRows (n + 1) r).map (v :: ·)
    | false => none
def boolK (k : TK) (op : BinOp) (a b : Bool) (K : AV → Upd → Option ρ) : Option ρ :=
  match k, op with
  | .bool, .eql => K (.bool (decide (a = b))) []
  | .bool, .neq => K (.bool (!decide (a = b))) []
  | _, _ => none
def aggK (ks : List Ty) (op : BinOp) (a b : List AV) (K : AV → Upd → Option ρ) : Option ρ :=
  match !ks.isEmpty && fits ks a && fits ks b, cellsEq a b with
  | true, some e => match op with
    | .eql => K (.bool e) []
    | .neq => K (.bool (!e)) []
    | _ => none
  | _, _ => none
def binK (T : TT) (op : BinOp) (t : Nat) (x y : AV) (K : AV → Upd → Option ρ) : Option ρ :=
  match x, y with
  | .int k a, .int k' b => match op with
    | .shl | .shr => shiftBin op k a b fun v => K v []
    | _ => if k = k' then intBin op k a b fun v => K v [] else none
  | .str a, .str b => strBin op a b fun v => K v []
  | .bool a, .bool b => boolK (T.at t).kind op a b K
  | .agg a, .agg b => aggK (T.at t).eqk op a b K
  | _, _ => none
def unK (op : UnOp) (x : AV) (K : AV → Upd → Option ρ) : Option ρ :=
  match op, x with
  | .not, .bool b => K (.bool (!b)) []
  | .neg, .int k n => K (.int k (k.wrap (0 - n))) []
  | _, _ => none
def pickK (c a b : AV) (K : AV → Upd → Option ρ) : Option ρ :=
  match c with
  | .bool c => if c = true then K a [] else K b []
  | _ => none
def allocK (get : Get) (d : Nat) (zs : List AV) (K : AV → Upd → Option ρ) : Option ρ :=
  match zs with
  | [] => none
  | z :: zs => newOb get d (.box (z :: zs)) fun r u => K (.ptr r 0) u
def boxK (get : Get) (d : Nat) (x : AV) (K : AV → Upd → Option ρ) : Option ρ :=
  match x.sure with
  | true => newOb get d (.box x.cells) fun r u => K (.ptr r 0) u
  | false => none
def arrOffs (e : Nat) : Nat → Nat → List (Nat × Nat)
  | _, 0 => []
  | i, n + 1 => (i, e) :: arrOffs e (i + 1) n
def structK (T : TT) (t : Nat) (ps : List (Nat × AV)) (K : AV → Upd → Option ρ) : Option ρ :=
  match (T.at t).offs with
  | [] => (match (T.at t).kind, (T.at t).zero with
    | .arr e n, z :: zs => buildK T (arrOffs e 0 n) (z :: zs) ps fun cs => K (.agg cs) []
    | _, _ => none)
  | _ :: _ => match (T.at t).zero with
    | [] => none
    | z :: zs => buildK T (T.at t).offs (z :: zs) ps fun cs => K (.agg cs) []
def litK (get : Get) (d : Nat) (k : TK) (n : Nat) (vs : Option (List AV)) (K : AV → Upd → Option ρ) : Option ρ :=
  match k, vs with
  | .slice e ty, some vs => match Nat.beq vs.length n && Nat.ble (n * ty.w) 16777216 && !(ty.hasO && ty.hasL) with
    | true => toRows get ty vs fun xs ks => match Ref.apart ks with
      | true => newOb get d (.lst false e ty xs) fun r u => K (.ol r .whole) (u ++ kills get ks [])
      | false => none
    | false => none
  | _, _ => none
def nilK (get : Get) (x : AV) (K : AV → Upd → Option ρ) : Option ρ :=
  match x with
  | .ptr r off => match live (get.ob r) with
    | true => K (.ptr r off) []
    | false => none
  | .ep r i off => match live (get.ob r) with
    | true => K (.ep r i off) []
    | false => none
  | .ip b t xs i off => K (.ip b t xs i off) []
  | _ => none
def convK (get : Get) (d : Nat) (sw : Nat) (src dst : TK) (x : AV) (K : AV → Upd → Option ρ) : Option ρ :=
  match dst with
  | .int k => match x, Nat.ble 1 sw with
    | .int _ n, true => K (.int k (k.wrap n)) []
    | _, _ => none
  | .slice e ty => match x, src with
    | .str s, .str => if h : ty = .int .u8 then (if s.size ≤ maxStr then newOb get d (.lst true e ty (h ▸ bytesOf s)) fun r u => K (.ol r .whole) u else none) else none
    | _, _ => none
  | .str => match src with
    | .str => match x with
      | .str s => K (.str s) []
      | _ => none
    | .slice _ ty => if ty = .int .u8 then (match x with
      | .str _ => none
      | x => rowsOf get (.int .u8) x fun xs => K (.str (strOf xs)) []) else none
    | _ => none
  | _ => none
def makeK (T : TT) (get : Get) (d : Nat) (k : TK) (n m : AV) (K : AV → Upd → Option ρ) : Option ρ :=
  match n, m, k with
  | .int .i64 a, .int .i64 b, .slice e ty => match ty.hasO && ty.hasL with
    | false => if a = b then (if 0 ≤ a ∧ a ≤ (capMax : Int) then zeroRow T e get ty fun z => newOb get d (.lst false e ty (List.replicate a.toNat z)) fun r u => K (.ol r .whole) u else none) else none
    | true => none
  | _, _, _ => none
def cut3K (get : Get) (k : TK) (x l h m : AV) (K : AV → Upd → Option ρ) : Option ρ :=
  match k, x, l, h, m with
  | .slice _ ty, .ol r vw, .int _ l, .int _ h, .int _ m => match get.ob r with
    | .lst _ _ t xs => if ty = t then (if 0 ≤ m ∧ m ≤ vw.len xs.length then (if 0 ≤ h ∧ h ≤ m then (if 0 ≤ l ∧ l ≤ h then K .dead [] else none) else none) else none) else none
    | _ => none
  | _, _, _, _, _ => none
def cutK (get : Get) (k : TK) (x : AV) (lo hi : Option AV) (K : AV → Upd → Option ρ) : Option ρ :=
  match k, x with
  | .str, .str s => sliceIdx s.size s.size lo hi fun l h => K (.str (s.extract l.toNat h.toNat)) []
  | .slice _ _, .nils => sliceIdx 0 0 lo hi fun _ _ => K .nils []
  | .slice _ ty, .il b t xs => if ty.erase = t then sliceIdx xs.length xs.length lo hi fun l h => K (.il b t ((xs.take h.toNat).drop l.toNat)) [] else none
  | .slice _ ty, .ol r .whole => match get.ob r with
    | .lst _ _ t xs => if ty = t then sliceIdx xs.length xs.length lo hi fun l h => K (.ol r (.sub l h)) [] else none
    | _ => none
  | .slice _ ty, .ol r (.sub lo0 hi0) => match get.ob r with
    | .lst _ _ t xs => if ty = t then sliceIdx (hi0 - lo0) (xs.length - lo0) lo hi fun l h => K (.ol r (.sub (lo0 + l) (lo0 + h))) [] else none
    | _ => none
  | _, _ => none
def fieldAddrK (get : Get) (offs : List (Nat × Nat)) (f : Nat) (x : AV) (K : AV → Upd → Option ρ) : Option ρ :=
  match nth? offs f with
  | some (off', _) => match x with
    | .ptr r off => match live (get.ob r) with
      | true => K (.ptr r (off + off')) []
      | false => none
    | .ep r i off => match live (get.ob r) with
      | true => K (.ep r i (off + off')) []
      | false => none
    | .ip b ty xs i off => K (.ip b ty xs i (off + off')) []
    | .np r k i o1 j off => (match nlOf get r k i o1 with
      | some _ => K (.np r k i o1 j (off + off')) []
      | none => none)
    | _ => none
  | none => none
def fieldK (T : TT) (offs : List (Nat × Nat)) (f : Nat) (x : AV) (K : AV → Upd → Option ρ) : Option ρ :=
  match x, nth? offs f with
  | .agg cs, some (off, ft) => match Nat.ble 1 (T.at ft).w && Nat.ble (off + (T.at ft).w) cs.length with
    | true => (match (T.at ft).agg, cs.drop off with
      | true, cs' => K (.agg (cs'.take (T.at ft).w)) []
      | false, c :: _ => K c []
      | false, [] => none)
    | false => none
  | _, _ => none
def idxAddrK (get : Get) (k : TK) (x i : AV) (K : AV → Upd → Option ρ) : Option ρ :=
  match k, i with
  | .slice _ ty, .int _ n => match x with
    | .ol r vw => match get.ob r with
      | .lst _ _ t' xs => if ty.w = t'.w then (match vw with
        | .whole => if 0 ≤ n ∧ n < (xs.length : Int) then K (.ep r n 0) [] else none
        | .sub lo hi => if 0 ≤ n ∧ n < hi - lo then K (.ep r (lo + n) 0) [] else none) else none
      | _ => none
    | .il b t xs => if ty.erase = t then (if 0 ≤ n ∧ n < (xs.length : Int) then K (.ip b t xs n 0) [] else none) else none
    | .nl r k i off => match nlOf get r k i off with
      | some o => if ty.w = o.u.w then (if 0 ≤ n ∧ n < (o.ys.length : Int) then K (.np r k i off n 0) [] else none) else none
      | none => none
    | _ => none
  | .arr _ m, .int _ n => match x with
    | .ptr r off => match get.ob r with
      | .box _ => if 0 ≤ n ∧ n < (m : Int) then K (.ep r n off) [] else none
      | _ => none
    | _ => none
  | _, _ => none
def idxK (k : TK) (x i : AV) (K : AV → Upd → Option ρ) : Option ρ :=
  match k, x, i with
  | .str, .str s, .int _ n => if 0 ≤ n ∧ n < (s.size : Int) then K (.int .u8 (bt s n)) [] else none
  | _, _, _ => none
def extractK (x : AV) (i : Nat) (K : AV → Upd → Option ρ) : Option ρ :=
  match x with
  | .tup vs => match nth? vs i with
    | some v => K v []
    | none => none
  | _ => none
def clearK (T : TT) (get : Get) (e : Nat) (ty : Ty) (x : AV) (K : AV → Upd → Option ρ) : Option ρ :=
  match x with
  | .ol r (.sub lo hi) => match get.ob r with
    | .lst z e' t' xs => if h : t' = ty ∧ ty.hasO = false then zeroRow T e get ty fun y => K (.tup []) (Upd.same get [] r (.lst z e' ty (List.take lo.toNat (h.1 ▸ xs) ++ (List.replicate (hi - lo).toNat y ++ List.drop hi.toNat (h.1 ▸ xs))))) else none
    | _ => none
  | _ => none
def viaT : List AV → AV → Bool → Bool
  | [], .ol _ (.sub _ _), _ => true
  | _, _, b => b
def builtinK (T : TT) (get : Get) (d : Nat) (b : Builtin) (xs : List AV) (ts : List Nat) (K : AV → Upd → Option ρ) : Option ρ :=
  match b with
  | .len => match xs, ts with
    | [x], [t] => match lenOf get (T.at t).kind x with
      | some n => K (.int .i64 n) []
      | none => none
    | _, _ => none
  | .append => match xs, ts with
    | [s, x], [t, t'] => match (T.at t).kind with
      | .slice e ty => match appOk x t t' (T.at t').kind with
        | true => (match viaT (T.at t).zero s ty.hasO with
          | false => rowsOf get ty x fun ys => appendK get d e ty capMax s ys K
          | true => appendT get d e ty capMax s x K)
        | false => none
      | _ => none
    | _, _ => none
  | .min => match xs with
    | [.int k a, .int k' b] => if k = k' then K (.int k (if b < a then b else a)) [] else none
    | _ => none
  | .max => match xs with
    | [.int k a, .int k' b] => if k = k' then K (.int k (if a < b then b else a)) [] else none
    | _ => none
  | .clear => match xs, ts with
    | [x], [t] => match (T.at t).kind with
      | .slice e ty => clearK T get e ty x K
      | _ => none
    | _, _ => none
  | _ => none
def AV.leafy : AV → Bool
  | .dead => false
  | .tup _ => false
  | .agg _ => false
  | .fn _ (_ :: _) => false
  | _ => true
def funcK (f : Nat) (fs : List Operand) (cs : List AV) (K : AV → Upd → Option ρ) : Option ρ :=
  match fs, cs.all AV.leafy with
  | [], true => K (.fn f cs) []
  | _, _ => none
def callVK (call : CallF ρ) (f : AV) (xs : List AV) (get : Get) (d : Nat) (K : AV → Upd → Option ρ) : Option ρ :=
  match f with
  | .fn f caps => call f (xs ++ caps) get d K
  | _ => none
def opK (T : TT) (call : CallF ρ) (ev : Operand → AV) (get : Get) (d : Nat) (o : Op) (K : AV → Upd → Option ρ) : Option ρ :=
  match o with
  | .move x => K (ev x) []
  | .assign x => K (ev x) []
  | .pick c a b => pickK (ev c) (ev a) (ev b) K
  | .alloc t => allocK get d (T.at t).zero K
  | .box _ x => boxK get d (ev x) K
  | .build t ps => structK T t (ps.toList.map fun p => (p.1, ev p.2)) K
  | .buildSlice t n ps => litK get d (T.at t).kind n (partsRows 0 (ps.toList.map fun p => (p.1, ev p.2))) K
  | .load t a => leaveK T get d t (ev a) K (loadK T get t (ev a) fun v => K v [])
  | .store t a v => match (ev v).sure && (Nat.beq (ev v).cells.length (T.at t).w && Nat.ble 1 (T.at t).w) with
    | true => storeK get (ev a) (ev v) fun u => K .dead u
    | false => none
  | .nilCheck x => nilK get (ev x) K
  | .binOp op t x y _ => binK T op t (ev x) (ev y) K
  | .unOp op _ x => unK op (ev x) K
  | .convert src t x => convK get d (T.at src).w (T.at src).kind (T.at t).kind (ev x) K
  | .makeFunc (.func f) fs cs => funcK f fs.toList (cs.toList.map ev) K
  | .makeSlice t n m => makeK T get d (T.at t).kind (ev n) (ev m) K
  | .slice t x lo hi none => cutK get (T.at t).kind (ev x) (lo.map ev) (hi.map ev) K
  | .fieldAddr t x f => fieldAddrK get (T.at t).offs f (ev x) K
  | .field t x f => fieldK T (T.at t).offs f (ev x) K
  | .indexAddr t x i => idxAddrK get (T.at t).kind (ev x) (ev i) K
  | .index t x i => idxK (T.at t).kind (ev x) (ev i) K
  | .extract x i => extractK (ev x) i K
  | .call ⟨.builtin b, as, ts⟩ => builtinK T get d b (as.toList.map ev) ts.toList K
  | .call ⟨.value f, as, _⟩ => callVK call (ev f) (as.toList.map ev) get d K
  | .slice t x (some lo) (some hi) (some m) => cut3K get (T.at t).kind (ev x) (ev lo) (ev hi) (ev m) K
  | _ => none
end
def AV.slots : AV → List Nat
  | .ol r _ => [r.s]
  | .ptr r _ => [r.s]
  | .ep r _ _ => [r.s, SHG]
  | .nl r _ _ _ => [r.s, SHG]
  | .np r _ _ _ _ _ => [r.s, SHG]
  | .agg cs => go cs
  | .fn _ cs => go cs
  | _ => []
where
  go : List AV → List Nat
    | [] => []
    | .ol r _ :: cs => r.s :: go cs
    | .ptr r _ :: cs => r.s :: go cs
    | .ep r _ _ :: cs => r.s :: SHG :: go cs
    | .nl r _ _ _ :: cs => r.s :: SHG :: go cs
    | .np r _ _ _ _ _ :: cs => r.s :: SHG :: go cs
    | _ :: cs => go cs
def Ob.slots : Ob → List Nat
  | .box cs => AV.slots.go cs
  | _ => []
def memb (n : Nat) : List Nat → Bool
  | [] => false
  | m :: ms => match Nat.beq m n with | true => true | false => memb n ms
def reach (get : Get) : Nat → List Nat → List Nat → List Nat
  | 0, _, acc => acc
  | _ + 1, [], acc => acc
  | n + 1, s :: todo, acc => match memb s acc with
    | true => reach get n todo acc
    | false => reach get n ((get s).os.flatMap (fun o => o.2.slots) ++ todo) (s :: acc)
def operandTmps : List Operand → List Nat
  | [] => []
  | .tmp t :: r => t :: operandTmps r
  | _ :: r => operandTmps r
def isCall : Op → Bool
  | .call ⟨.value _, _, _⟩ => true
  | _ => false
def evR (A : St) (ts : List Nat) : Operand → AV
  | .tmp t => match memb t ts with
    | true => nth .dead A.tmps t
    | false => .dead
  | .const v => constAV v
  | .func f => .fn f []
  | .global _ => .dead
def isMove : Op → Bool
  | .move _ => true
  | .assign _ => true
  | _ => false
def needOf (objs : Upd) (eA : Operand → AV) (o : Op) (d : Nat) : List Nat :=
  let base := d :: match isMove o with | true => [] | false => o.operands.toList.flatMap (fun x => (eA x).slots)
  match isCall o with
  | true => SHG :: (SHG + 1) :: reach (look objs) 60 base []
  | false => base
def restrict (objs : Upd) (need : List Nat) : Get := fun s => match memb s need with | true => look objs s | false => .none
def applyUpd : Upd → Upd → Upd
  | objs, [] => objs
  | objs, (s, x) :: u => put (applyUpd objs u) s x
def bitsOf : List Nat → Nat
  | [] => 0
  | n :: r => 2 ^ n ||| bitsOf r
structure Ev where
  i : Nat
  r : Nat
  w : Nat
def Ev.free (a b : Ev) : Bool := Nat.beq ((a.w &&& (b.r ||| b.w)) ||| (a.r &&& b.w)) 0
def clash (bef : Nat) (e : Ev) : List Ev → Bool
  | [] => false
  | x :: xs => match (Nat.testBit bef x.i || Ev.free x e) with
    | true => clash bef e xs
    | false => true
section
variable {ρ : Type}
def operK (T : TT) (call : CallF ρ) (ops : Array Oper) (rid i : Nat) (o : Oper) (A : St) (K : Ev → St → Option ρ) : Option ρ :=
  let d := match o.dst with | some d => d | none => A.tmps.length + 256 * rid + i + 65
  let wd := match o.dst with | some d => 2 ^ (2 * d) | none => 0
  let set (ts : List AV) (v : AV) : List AV := match o.dst with | some d => setNth ts d v | none => ts
  let run (A : St) (g : Nat) : Option ρ :=
    let ts := operandTmps o.op.operands.toList
    let eA := evR A ts
    let need := needOf A.objs eA o.op d
    opK T call eA (restrict A.objs need) d o.op fun v u =>
      K ⟨i, g ||| bitsOf (ts.map (2 * ·)) ||| bitsOf (need.map (2 * · + 1)), wd ||| bitsOf (u.map (2 * ·.1 + 1))⟩
        { tmps := set A.tmps v, objs := applyUpd A.objs u }
  match o.guard with
  | none => run A 0
  | some (j, want) => match (ops[j]?).bind (·.dst) with
    | none => none
    | some t => match nth .dead A.tmps t with
      | .bool b => if b = want then run { A with tmps := setNth A.tmps t (.bool want) } (2 ^ (2 * t))
        else K ⟨i, 2 ^ (2 * t), wd⟩ { tmps := set (setNth A.tmps t (.bool (!want))) (.tup []), objs := A.objs }
      | .tup _ => K ⟨i, 2 ^ (2 * t), wd⟩ { tmps := set A.tmps (.tup []), objs := A.objs }
      | _ => none
def regK (T : TT) (call : CallF ρ) (ops : Array Oper) (rid : Nat) : List Oper → Nat → St → (St → Option ρ) → Option ρ
  | [], _, A, K => K A
  | o :: os, i, A, K => operK T call ops rid i o A fun _ A' => regK T call ops rid os (i + 1) A' K
def edges (i : Nat) (bs : List Nat) : List Edge → Option Nat
  | [] => some 0
  | e :: es => match Region.binds .any e with
    | false => edges i bs es
    | true => match Nat.blt e.on i, edges i bs es with
      | true, some b => some (2 ^ e.on ||| nth 0 bs e.on ||| b)
      | _, _ => none
def drawK (T : TT) (call : CallF ρ) (ops : Array Oper) (rid : Nat) : List Oper → List Nat → Nat → List Ev → St → (St → Option ρ) → Option ρ
  | [], _, _, _, A, K => K A
  | o :: os, bs, i, es, A, K => match edges i bs o.after.toList with
    | none => none
    | some b => operK T call ops rid i o A fun e A' =>
      match clash b e es with
      | true => none
      | false => drawK T call ops rid os (bs ++ [b]) (i + 1) (e :: es) A' K
end
end Go.Eng
end

section
namespace Go.Eng
inductive Pat where
  | any | int (k : IntKind) | bool | str | nils
  | il (b : Bool) (t : Ty)
  | own (z : Bool) (e : Nat) (t : Ty)
  | mut (z : Bool) (e : Nat) (t : Ty)
  /-- a name -/
  | nm
  | ptr (o : Nat) (p : Pat)
  | agg (p : Pat)
  | mag (p : Pat)
  | tup (p : Pat)
  | fn (f : Nat) (p : Pat)
  | nil
  | cons (a b : Pat)
@[reducible] def Pat.den : Pat → Type
  | .any => Unit | .int _ => Int | .bool => Bool | .str => ByteArray | .nils => Unit | .il _ t => List t.den | .own _ _ t => List t.den | .mut _ _ t => List t.den | .nm => Nat
  | .ptr _ p => p.den | .agg p => p.den | .mag p => p.den | .tup p => p.den | .fn _ p => p.den | .nil => Unit | .cons a b => a.den × b.den
@[reducible] def Pat.out : Pat → Type
  | .mut _ _ t => List t.den | .ptr _ p => p.den | .fn _ p => p.out | .mag p => p.out | .cons a b => a.out × b.out | _ => Unit
def Pat.nb : Pat → Bool
  | .il b _ => !b
  | .ptr _ p | .agg p | .mag p | .tup p | .fn _ p => p.nb
  | .cons a b => a.nb && b.nb
  | _ => true
def Pat.nbo : Pat → Bool
  | .ptr _ p => p.nb
  | .mag p | .fn _ p => p.nbo
  | .cons a b => a.nbo && b.nbo
  | _ => true
structure Took where
  owns : List Ref
  imms : List Ref
  bors : List Ref
def Took.none : Took := ⟨[], [], []⟩
def Took.view (b : Bool) (r : Ref) : Took :=
  match b with
  | true => ⟨[], [], [r]⟩
  | false => ⟨[], [r], []⟩
def Took.and (a b : Took) : Took := ⟨a.owns ++ b.owns, a.imms ++ b.imms, a.bors ++ b.bors⟩
def Ref.off : List Ref → List Ref → Bool
  | [], _ => true
  | r :: rs, os => !r.among os && Ref.off rs os
def Took.ok (t : Took) : Bool := Ref.apart t.owns && (Ref.off t.imms t.owns && Ref.off t.bors t.owns)
def Took.sole (t : Took) : Bool := t.ok && t.bors.isEmpty
section
variable {ρ : Type}
def pack (get : Get) : (p : Pat) → List AV → (p.den → Took → Option ρ) → Option ρ
  | .any, [_], K => K () .none
  | .int k, [.int k' n], K => if k' = k then K n .none else none
  | .bool, [.bool b], K => K b .none
  | .str, [.str s], K => K s .none
  | .nils, [.nils], K => K () .none
  | .il b t, [.il b' t' xs], K => match b' && !b with
    | true => none
    | false => if h : t' = t then K (h ▸ xs) .none else none
  | .il _ _, [.nils], K => K [] .none
  | .il b t, [.ol r v], K => match get.ob r with
    | .lst _ _ t' xs => if h : t' = t ∧ t.hasO = false then K (view (h.1 ▸ xs) v) (Took.view b r) else if h : t'.erase = t then (match t'.noq with
      | true => K (view (h ▸ t'.ers xs) v) (Took.view b r)
      | false => none) else none
    | _ => none
  | .il true t, [.nl r k i off], K => match nlOf get r k i off with
    | some o => if h : o.u.erase = t then (match o.u.noq with
      | true => K (h ▸ o.u.ers o.ys) (Took.view true r)
      | false => none) else none
    | none => none
  | .nm, [.nm n], K => K n .none
  | .nm, [.nils], K => K (0 : Nat) .none
  | .own false _ _, [.nils], K => K [] .none
  | .own z e t, [.ol r .whole], K => match get.ob r with
    | .lst z' e' t' xs => if h : t' = t then (match Nat.beq e' e && (z || !z') with
      | true => K (h ▸ xs) ⟨[r], [], []⟩
      | false => none) else if h : t'.q = t then (match Nat.beq e' e && (z || !z') with
      | true => K (h ▸ xs.map t'.toq) ⟨[r], [], []⟩
      | false => none) else none
    | _ => none
  | .own z e t, [.ol r (.sub lo hi)], K => match get.ob r with
    | .lst z' e' t' xs => if h : t' = t ∧ t.hasO = false then (match Nat.beq e' e && (z || !z') with
      | true => K (List.drop lo.toNat (List.take hi.toNat (h.1 ▸ xs))) ⟨[r], [], []⟩
      | false => none) else none
    | _ => none
  | .mut false _ _, [.nils], K => K [] .none
  | .mut z e t, [.ol r .whole], K => match get.ob r with
    | .lst z' e' t' xs => if h : t' = t then (match Nat.beq e' e && (z || !z') with
      | true => K (h ▸ xs) ⟨[r], [], []⟩
      | false => none) else none
    | _ => none
  | .ptr o p, [.ptr r off], K => match Nat.beq off o with
    | true => (match get.ob r with
      | .box cs => pack get p cs fun x t => K x (Took.and ⟨[r], [], []⟩ t)
      | _ => none)
    | false => none
  | .agg p, [.agg cs], K => pack get p cs K
  | .mag p, [.agg cs], K => pack get p cs K
  | .tup p, [.tup cs], K => pack get p cs K
  | .fn f p, [.fn f' cs], K => match Nat.beq f' f with
    | true => pack get p cs K
    | false => none
  | .nil, [], K => K () .none
  | .cons a b, v :: vs, K => pack get a [v] fun x t => pack get b vs fun y t' => K (x, y) (t.and t')
  | _, _, _ => none
end
def unpack (s g : Nat) : (p : Pat) → p.den → Nat → List AV × List (Nat × Ob)
  | .any, _, _ => ([.dead], [])
  | .int k, n, _ => ([.int k n], [])
  | .bool, b, _ => ([.bool b], [])
  | .str, x, _ => ([.str x], [])
  | .nils, _, _ => ([.nils], [])
  | .il b t, xs, _ => ([.il b t xs], [])
  | .own z e t, xs, j => ([.ol ⟨s, j, g, 0⟩ .whole], [(0, .lst z e t xs)])
  | .mut z e t, xs, j => ([.ol ⟨s, j, g, 0⟩ .whole], [(0, .lst z e t xs)])
  | .nm, n, _ => ([.nm n], [])
  | .ptr o p, x, j => match unpack s g p x (j + 1) with
    | (cs, os) => ([.ptr ⟨s, j, g, 0⟩ o], (0, .box cs) :: os)
  | .agg p, x, j => match unpack s g p x j with
    | (cs, os) => ([.agg cs], os)
  | .mag p, x, j => match unpack s g p x j with
    | (cs, os) => ([.agg cs], os)
  | .tup p, x, j => match unpack s g p x j with
    | (cs, os) => ([.tup cs], os)
  | .fn f p, x, j => match unpack s g p x j with
    | (cs, os) => ([.fn f cs], os)
  | .nil, _, _ => ([], [])
  | .cons a b, x, j => match unpack s g a x.1 j with
    | (cs, os) => match unpack s g b x.2 (j + os.length) with
      | (cs', os') => (cs ++ cs', os ++ os')
structure Entry where
  f : Nat
  key : Nat
  ps : Pat
  rs : Pat
  F : ps.den → Option (rs.den × ps.out)
def keyOf : List AV → Nat
  | [] => 0
  | .fn f _ :: _ => f + 1
  | .ptr _ (n + 1) :: _ => 1000000 + n + 1
  | _ :: vs => keyOf vs
def findE (f key : Nat) : List Entry → Option Entry
  | [] => none
  | e :: es => match Nat.beq e.f f && Nat.beq e.key key with
    | true => some e
    | false => findE f key es
def back (d g : Nat) : (p : Pat) → List AV → p.out → (j : Nat) → List (Ref × Ob) × List (Nat × Ob)
  | .mut z e t, [.ol r _], xs, _ => ([(r, .lst z e t xs)], [])
  | .ptr _ p, [.ptr r _], x, j => match unpack d g p x j with
    | (cs, os) => ([(r, .box cs)], os)
  | .fn _ p, [.fn _ cs], x, j => back d g p cs x j
  | .mag p, [.agg cs], x, j => back d g p cs x j
  | .cons a b, v :: vs, x, j => match back d g a [v] x.1 j with
    | (ns, os) => match back d g b vs x.2 (j + os.length) with
      | (ns', os') => (ns ++ ns', os ++ os')
  | _, _, _, _ => ([], [])
def treeOb : Ob → Bool
  | .lst _ _ t _ => t.hasO
  | _ => false
def sames (get : Get) : List (Ref × Ob) → Upd → Upd
  | [], u => u
  | (r, o) :: ns, u => sames get ns (Upd.same get u r o)
section
variable {ρ : Type}
def callN (es : List Entry) : CallF ρ := fun f args get d K =>
  match findE f (keyOf args) es with
  | none => none
  | some e => pack get e.ps args fun x t => match t.ok && ((e.ps.nbo && e.rs.nb) || t.bors.isEmpty) with
    | false => none
    | true => (e.F x).bind fun r =>
      let g := (get d).g + 1
      match back d g e.ps args r.2 0 with
      | (ns, os) => match unpack d g e.rs r.1 os.length with
        | (vs, os') => (match ns.any (fun n => treeOb n.2), Nat.beq d SHG with
          | false, _ => K (nth .dead vs 0) ((d, ⟨g, os ++ os'⟩) :: sames get ns (kills get (t.owns ++ t.imms) []))
          | true, false => K (nth .dead vs 0) ((SHG, ⟨(get SHG).g + 1, []⟩) :: (d, ⟨g, os ++ os'⟩) :: sames get ns (kills get (t.owns ++ t.imms) []))
          | true, true => none)
def SHN : Nat := 4001
def detach (get : Get) (r : Ref) (o : OL) : Get := fun s => match Nat.beq s SHN with
  | true => ⟨(get SHN).g + 1, [(0, .lst false o.e o.u o.ys)]⟩
  | false => match Nat.beq s r.s with
    | true => ⟨r.g, setNth (get r.s).os r.j (r.v + 1, .gone)⟩
    | false => get s
def isBox : Ob → Bool
  | .box _ => true
  | _ => false
def Pat.mut1 : Pat → Bool
  | .cons (.mut _ _ _) _ => true
  | _ => false
def callK (es : List Entry) : CallF ρ := fun f args get d K =>
  match args with
  | .nl r k i off :: rest => match findE f (keyOf args) es with
    | some e => (match e.ps.mut1 with
      | true => (match nlOf get r k i off with
        | some o => (match get.ob r with
          | .lst z e t xs => (match Nat.beq r.s d || (Nat.beq r.s SHN || (Nat.beq d SHN || Nat.beq r.s SHG)) with
            | false => callN es f (.ol ⟨SHN, 0, (get SHN).g + 1, 0⟩ .whole :: rest) (detach get r o) d fun v u =>
              (match v, Upd.at (detach get r o) u SHN with
              | .int kk n, ⟨g', [(v', .lst false e' u' ys')]⟩ => (match (Nat.beq g' ((get SHN).g + 1) && Nat.beq v' 0) && ((Nat.beq e' o.e && decide (u' = o.u)) && (Nat.beq (Upd.at (detach get r o) u r.s).g r.g && u.all (fun p => p.2.os.all (fun q => !isBox q.2)))) with
                | true => K (.int kk n) ((r.s, ⟨r.g, setNth (Upd.at (detach get r o) u r.s).os r.j (r.v, .lst z e t (xs.set i.toNat (t.putO (Ty.rd xs i) off ⟨e', u', ys'⟩)))⟩) :: (SHN, ⟨(get SHN).g + 2, []⟩) :: u)
                | false => none)
              | _, _ => none)
            | true => none)
          | _ => none)
        | none => none)
      | false => callN es f args get d K)
    | none => none
  | _ => callN es f args get d K
end
structure Cut where
  slots : List Nat
  p : Pat
def Cut.pack {ρ : Type} (c : Cut) (A : St) (K : c.p.den → Option ρ) : Option ρ :=
  Eng.pack (look A.objs) c.p (c.slots.map (nth .dead A.tmps)) fun x t => match t.sole with
    | true => K x
    | false => none
def setAll : List AV → List Nat → List AV → List AV
  | ts, s :: ss, v :: vs => setAll (setNth ts s v) ss vs
  | ts, _, _ => ts
def unpackC : (p : Pat) → p.den → Nat → List AV × Upd
  | .cons a b, x, n => match unpack n 0 a x.1 0 with
    | (vs, os) => match unpackC b x.2 (n + 1) with
      | (vs', u) => (vs ++ vs', (n, ⟨0, os⟩) :: u)
  | p, x, n => match unpack n 0 p x 0 with
    | (vs, os) => (vs, [(n, ⟨0, os⟩)])
def Cut.unpack (n : Nat) (c : Cut) (x : c.p.den) : St := match unpackC c.p x n with
  | (vs, u) => ⟨setAll (List.replicate n .dead) c.slots vs, u⟩
inductive Ex where
  | normal | exit (id : Nat)
def whileK {X R : Type} (step : (X → Option R) → X → Option R) : Nat → X → Option R
  | 0, _ => none
  | n + 1, x => step (whileK step n) x
def findCut (id : Nat) : List (Nat × Cut × Cut) → Option (Cut × Cut)
  | [] => none
  | (i, c) :: r => match Nat.beq i id with | true => some c | false => findCut id r
section
variable {ρ : Type}
def forceNat (n : Nat) (K : Nat → Option ρ) : Option ρ :=
  match n with
  | 0 => K 0
  | m + 1 => K (m + 1)
def forceRef (r : Ref) (K : Ref → Option ρ) : Option ρ :=
  match r with
  | ⟨s, j, g, v⟩ => forceNat s fun s => forceNat j fun j => forceNat g fun g => forceNat v fun v => K ⟨s, j, g, v⟩
def forceLeaf (a : AV) (K : AV → Option ρ) : Option ρ :=
  match a with
  | .int k n => K (.int k n)
  | .bool b => K (.bool b)
  | .str s => K (.str s)
  | .il b t xs => K (.il b t xs)
  | .ol r v => forceRef r fun r => K (.ol r v)
  | .nl r k i off => forceRef r fun r => forceNat k fun k => forceNat off fun off => K (.nl r k i off)
  | .ptr r off => forceRef r fun r => forceNat off fun off => K (.ptr r off)
  | .dead => K .dead
  | a => K a
def forceLeafs : List AV → (List AV → Option ρ) → Option ρ
  | [], K => K []
  | v :: vs, K => forceLeaf v fun v => forceLeafs vs fun vs => K (v :: vs)
def forceAV (a : AV) (K : AV → Option ρ) : Option ρ :=
  match a with
  | .agg cs => forceLeafs cs fun cs => K (.agg cs)
  | .tup vs => forceLeafs vs fun vs => K (.tup vs)
  | a => forceLeaf a K
def forceAVs : List AV → (List AV → Option ρ) → Option ρ
  | [], K => K []
  | v :: vs, K => forceAV v fun v => forceAVs vs fun vs => K (v :: vs)
def forceOb (o : Ob) (K : Ob → Option ρ) : Option ρ :=
  match o with
  | .gone => K .gone
  | .box cs => forceLeafs cs fun cs => K (.box cs)
  | .lst z e t xs => K (.lst z e t xs)
def forceObs : List (Nat × Ob) → (List (Nat × Ob) → Option ρ) → Option ρ
  | [], K => K []
  | (n, o) :: r, K => forceNat n fun n => forceOb o fun o => forceObs r fun r => K ((n, o) :: r)
def forceUpd : Upd → (Upd → Option ρ) → Option ρ
  | [], K => K []
  | (s, ⟨g, os⟩) :: r, K => forceNat s fun s => forceNat g fun g => forceObs os fun os => forceUpd r fun r => K ((s, ⟨g, os⟩) :: r)
def forceSt (A : St) (K : St → Option ρ) : Option ρ :=
  match A with
  | ⟨ts, u⟩ => forceAVs ts fun ts => forceUpd u fun u => K ⟨ts, u⟩
end
structure Ctx where
  R : Type
  T : TT
  k : Nat
  n : Nat
  es : List Entry
  loops : List (Nat × Cut × Cut)
  fin : St → Option R
def evC (C : Ctx) : Code → St → (Ex → St → Option C.R) → Option C.R
  | .skip, A, K => K .normal A
  | .ret, A, _ => C.fin A
  | .exit id, A, K => K (.exit id) A
  | .seq x y, A, K => evC C x A fun e A' => match e with
    | .normal => evC C y A' K
    | e => K e A'
  | .cond c x y, A, K => match A.ev c with
    | .bool b => if b = true then evC C x A K else evC C y A K
    | _ => none
  | .block id (.loop body), A, K => match findCut id C.loops with
    | none => whileK (fun rec A => evC C body A fun e A' => match e with
        | .normal => rec A'
        | .exit i => match Nat.beq i id with
          | true => K .normal A'
          | false => none) 3 A
    | some (c, c') => c.pack A fun x => whileK (fun rec y => evC C body (c.unpack C.n y) fun e A' => match e with
        | .normal => c.pack A' rec
        | .exit i => match Nat.beq i id with
          | true => c'.pack A' fun z => K .normal (c'.unpack C.n z)
          | false => none) C.k x
  | .block id c, A, K => evC C c A fun e A' => match e with
      | .exit i => match Nat.beq i id with
        | true => K .normal A'
        | false => K (.exit i) A'
      | e => K e A'
  | .region rid ops draw, A, K => match draw with
    | false => regK C.T (callK C.es) ops rid ops.toList 0 A fun A' => forceSt A' (K .normal)
    | true => drawK C.T (callK C.es) ops rid ops.toList [] 0 [] A fun A' => forceSt A' (K .normal)
  | _, _, _ => none
def AV.notTup : AV → Bool
  | .tup _ => false
  | _ => true
def resultAV {ρ : Type} (T : TT) (A : St) (rs : List ResultVar) (K : AV → Option ρ) : Option ρ :=
  let rec go : List ResultVar → (List AV → Option ρ) → Option ρ
    | [], K => K []
    | .tmp t :: r, K => go r fun vs => K (nth .dead A.tmps t :: vs)
    | .cell a t :: r, K => loadK T (look A.objs) t (nth .dead A.tmps a) fun v => go r fun vs => K (v :: vs)
  go rs fun vs => match vs with
    | [v] => K v
    | vs => match vs.all AV.notTup with
      | true => K (.tup vs)
      | false => none
def outK {ρ : Type} (get : Get) : (p : Pat) → List AV → (p.out → Took → Option ρ) → Option ρ
  | .mut z e t, vs, K => pack get (.mut z e t) vs K
  | .ptr o p, vs, K => pack get (.ptr o p) vs K
  | .fn f p, [.fn f' cs], K => match Nat.beq f' f with
    | true => outK get p cs K
    | false => none
  | .fn _ _, _, _ => none
  | .mag p, [.agg cs], K => outK get p cs K
  | .mag _, _, _ => none
  | .cons a b, v :: vs, K => outK get a [v] fun x t => outK get b vs fun y t' => K (x, y) (t.and t')
  | .cons _ _, [], _ => none
  | .any, _, K | .int _, _, K | .bool, _, K | .str, _, K | .nils, _, K | .il _ _, _, K | .nm, _, K | .own _ _ _, _, K | .agg _, _, K | .tup _, _, K | .nil, _, K => K () .none
def slotsOf : Nat → Pat → List Nat
  | n, .cons _ b => n :: slotsOf (n + 1) b
  | _, _ => []
def keepOf : Nat → Pat → List Nat
  | n, .cons a b => match a with
    | .mut _ _ _ | .ptr _ _ | .fn _ _ | .mag _ => n :: keepOf (n + 1) b
    | _ => keepOf (n + 1) b
  | _, _ => []
def finK (T : TT) (ps rs : Pat) (vars : List ResultVar) (A : St) : Option (rs.den × ps.out) :=
  resultAV T A vars fun v => pack (look A.objs) rs [v] fun r t => outK (look A.objs) ps ((slotsOf 0 ps).map (nth .dead A.tmps)) fun o t' => match (t.and t').sole with
    | true => some (r, o)
    | false => none
def codeOf (fn : Func) : Code := match fn.body with | some c => c | none => .goto 0
def evF (T : TT) (k : Nat) (es : List Entry) (loops : List (Nat × Cut × Cut)) (fn : Func) (ps rs : Pat) (x : ps.den) : Option (rs.den × ps.out) :=
  let C : Ctx := ⟨rs.den × ps.out, T, k, fn.ntmps, es, loops, finK T ps rs fn.results.toList⟩
  evC C (codeOf fn) (Cut.unpack fn.ntmps ⟨slotsOf 0 ps, ps⟩ x) fun e A => match e with
    | .normal => C.fin A
    | .exit _ => none
end Go.Eng
end

section
namespace Go.Eng
theorem nth_eq {α : Type} (d : α) (l : List α) (i : Nat) : nth d l i = (l[i]?).getD d := by
  induction l generalizing i with
  | nil => rfl
  | cons x xs ih => cases i with
    | zero => rfl
    | succ i => simpa [nth] using ih i
theorem setNth_eq {α : Type} (l : List α) (i : Nat) (x : α) : setNth l i x = l.set i x := by
  induction l generalizing i with
  | nil => rfl
  | cons y ys ih => cases i with
    | zero => rfl
    | succ i => simp [setNth, ih]
theorem beq_true {a b : Nat} : Nat.beq a b = true ↔ a = b := by
  constructor
  · exact Nat.eq_of_beq_eq_true
  · rintro rfl; exact Nat.beq_refl a
theorem beq_false {a b : Nat} : Nat.beq a b = false ↔ a ≠ b := by
  rw [← Bool.not_eq_true, beq_true]
theorem look_cons (u : Upd) (s' : Nat) (x : Slot) (s : Nat) : look ((s', x) :: u) s = if s' = s then x else look u s := by
  simp only [look]
  cases h : Nat.beq s' s with
  | true => rw [if_pos (beq_true.1 h)]
  | false => rw [if_neg (beq_false.1 h)]
theorem look_put (u : Upd) (s' : Nat) (x : Slot) (s : Nat) : look (put u s' x) s = if s' = s then x else look u s := by
  induction u with
  | nil => simp only [put, look_cons]
  | cons a u ih =>
    obtain ⟨t, y⟩ := a
    simp only [put]
    cases h : Nat.beq t s' with
    | true =>
      have := beq_true.1 h; subst this
      simp only [look_cons]
      split <;> simp_all
    | false =>
      have hne := beq_false.1 h
      simp only [look_cons, ih]
      by_cases e : t = s
      · subst e; simp [hne.symm]
      · simp [e]
structure LV where
  blk : Option Nat
  off : Nat
  cap : Nat
  sub : List Nat
def LV.all (l : LV) : List Nat := l.blk.toList ++ l.sub
def LV.nil : LV := ⟨none, 0, 0, []⟩
theorem LV.mem_all {l : LV} {b : Nat} : b ∈ l.all ↔ l.blk = some b ∨ b ∈ l.sub := by
  unfold LV.all
  cases l.blk <;> simp [eq_comm]
theorem LV.mem_blk {l : LV} {b : Nat} (h : l.blk = some b) : b ∈ l.all := LV.mem_all.2 (.inl h)
theorem LV.mem_sub {l : LV} {b : Nat} (h : b ∈ l.sub) : b ∈ l.all := LV.mem_all.2 (.inr h)
theorem LV.all_of {l : LV} (h : l.sub = []) : l.all = l.blk.toList := by unfold LV.all; rw [h, List.append_nil]
theorem LV.blk_of {l : LV} {b : Nat} (h : l.sub = []) (hb : b ∈ l.all) : l.blk = some b := by
  rcases LV.mem_all.1 hb with hb | hb
  · exact hb
  · rw [h] at hb; cases hb
abbrev Loc := Nat → Nat → LV
def LV.core (l : LV) : Option Nat × Nat × Nat := (l.blk, l.off, l.cap)
theorem LV.core_eq {l l' : LV} (h : l.core = l'.core) : l.blk = l'.blk ∧ l.off = l'.off ∧ l.cap = l'.cap := by
  simp only [LV.core, Prod.mk.injEq] at h; exact h
def hdr (l : LV) (n : Nat) : Value := .slice (l.blk.map fun b => ⟨b, l.off, none⟩) n l.cap
class Names where
  nu : Nat → Value
  one : ∀ n, (nu n).oneCell' = true
  zero : nu 0 = .slice none 0 0
  /-- The package's blocks that are read, and what holds of them. -/
  gb : Nat → Prop
  gen : World → Prop
  keep : ∀ w w' : World, (∀ b, gb b → w'.heap[b]? = w.heap[b]?) → gen w → gen w'
variable [Names]
def RowsAt {α : Type} (R : α → List Value → Prop) (w : World) (width b o : Nat) (xs : List α) : Prop :=
  ∀ i (h : i < xs.length), ∃ rs : List Value, rs.length = width ∧ (∀ j v, rs[j]? = some v → w.cell? ⟨b, o + i * width + j, none⟩ = some v) ∧ R xs[i] rs
def IRep (F : Nat → Prop) (w : World) : (t : Ty) → t.den → List Value → Prop
  | .int k, n, cs => cs = [.int k n]
  | .bool, b, cs => cs = [.bool b]
  | .str, s, cs => cs = [.string s]
  | .list t, xs, cs => ∃ a n c, cs = [.slice a n c] ∧ xs.length = n ∧ n ≤ c ∧ (0 < n → ∃ b o, a = some ⟨b, o, none⟩ ∧ F b ∧ b < w.heap.size ∧ RowsAt (IRep F w t) w t.w b o xs)
  | .unit, _, cs => cs = []
  | .pair a b, x, cs => ∃ c d, cs = c ++ d ∧ IRep F w a x.1 c ∧ IRep F w b x.2 d
  | .nm, n, cs => cs = [Names.nu n]
  | .ols _ _, _, _ => False
  | .olq _ _, _, _ => False
theorem IRep.len {F : Nat → Prop} {w : World} : ∀ {t : Ty} {x : t.den} {cs : List Value}, IRep F w t x cs → cs.length = t.w
  | .int _, _, _, h => by cases h; rfl
  | .bool, _, _, h => by cases h; rfl
  | .str, _, _, h => by cases h; rfl
  | .list _, _, _, h => by obtain ⟨_, _, _, rfl, _⟩ := h; rfl
  | .unit, _, _, h => by cases h; rfl
  | .pair a b, _, _, h => by
    obtain ⟨c, d, rfl, h1, h2⟩ := h
    simp [Ty.w, h1.len, h2.len]
  | .nm, _, _, h => by cases h; rfl
  | .ols _ _, _, _, h => h.elim
  | .olq _ _, _, _, h => h.elim
def Same (F : Nat → Prop) (w w' : World) : Prop := ∀ b, F b → w'.heap[b]? = w.heap[b]?
omit [Names] in
theorem Same.cell {F : Nat → Prop} {w w' : World} (h : Same F w w') {a : Addr} (ha : F a.block) : w'.cell? a = w.cell? a := World.cell?_of_block (w := w) (h a.block ha)
omit [Names] in
theorem Same.lt {F : Nat → Prop} {w w' : World} (h : Same F w w') {b : Nat} (hb : F b) (hl : b < w.heap.size) : b < w'.heap.size := by
  have := h b hb
  rw [Array.getElem?_eq_getElem hl] at this
  exact (Array.getElem?_eq_some_iff.1 this).1
theorem IRep.mono {F F' : Nat → Prop} {w w' : World} (hF : ∀ b, F b → F' b) (hs : Same F w w') : ∀ {t : Ty} {x : t.den} {cs : List Value}, IRep F w t x cs → IRep F' w' t x cs
  | .int _, _, _, h => h
  | .bool, _, _, h => h
  | .str, _, _, h => h
  | .list t, xs, _, h => by
    obtain ⟨a, n, c, rfl, hl, hc, hr⟩ := h
    refine ⟨a, n, c, rfl, hl, hc, fun hn => ?_⟩
    obtain ⟨b, o, rfl, hb, hlt, hrows⟩ := hr hn
    refine ⟨b, o, rfl, hF b hb, hs.lt hb hlt, fun i hi => ?_⟩
    obtain ⟨rs, hrl, hcell, hrep⟩ := hrows i hi
    exact ⟨rs, hrl, fun j v hj => (hs.cell (a := ⟨b, _, none⟩) hb).trans (hcell j v hj), IRep.mono hF hs hrep⟩
  | .unit, _, _, h => h
  | .pair a b, x, _, h => by
    obtain ⟨c, d, rfl, h1, h2⟩ := h
    exact ⟨c, d, rfl, IRep.mono hF hs h1, IRep.mono hF hs h2⟩
  | .nm, _, _, h => h
  | .ols _ _, _, _, h => h
  | .olq _ _, _, _, h => h
theorem IRep.one {F : Nat → Prop} {w : World} : ∀ {t : Ty} {x : t.den} {cs : List Value}, IRep F w t x cs → ∀ v ∈ cs, v.oneCell' = true
  | .int _, _, _, h => by cases h; simp [Value.oneCell']
  | .bool, _, _, h => by cases h; simp [Value.oneCell']
  | .str, _, _, h => by cases h; simp [Value.oneCell']
  | .list _, _, _, h => by obtain ⟨_, _, _, rfl, _⟩ := h; simp [Value.oneCell']
  | .unit, _, _, h => by cases h; simp
  | .pair a b, _, _, h => by
    obtain ⟨c, d, rfl, h1, h2⟩ := h
    intro v hv
    rcases List.mem_append.1 hv with hv | hv
    · exact h1.one v hv
    · exact h2.one v hv
  | .nm, n, _, h => by cases h; simpa using Names.one n
  | .ols _ _, _, _, h => h.elim
  | .olq _ _, _, _, h => h.elim
def RS (objs : Upd) (r : Ref) (C : Ob → Prop) : Prop :=
  r.g < (look objs r.s).g ∨ (r.g = (look objs r.s).g ∧ ∃ v o, (look objs r.s).os[r.j]? = some (v, o) ∧ (r.v < v ∨ (r.v = v ∧ C o)))
omit [Names] in
theorem RS.mono {objs : Upd} {r : Ref} {C C' : Ob → Prop} (h : RS objs r C) (hC : ∀ o, C o → C' o) : RS objs r C' := by
  rcases h with h | ⟨hg, v, o, ho, h⟩
  · exact .inl h
  · exact .inr ⟨hg, v, o, ho, h.imp id fun ⟨e, c⟩ => ⟨e, hC o c⟩⟩
omit [Names] in
theorem ob_some {objs : Upd} {r : Ref} {o : Ob} (h : Get.ob (look objs) r = o) (hne : o ≠ .gone) :
    r.g = (look objs r.s).g ∧ (look objs r.s).os[r.j]? = some (r.v, o) := by
  unfold Get.ob at h
  cases hb : Nat.beq (look objs r.s).g r.g with
  | false => rw [hb] at h; exact absurd h.symm hne
  | true =>
    rw [hb] at h
    simp only [nth_eq] at h
    refine ⟨(beq_true.1 hb).symm, ?_⟩
    cases hj : (look objs r.s).os[r.j]? with
    | none => rw [hj] at h; simp only [Option.getD_none] at h; split at h <;> exact absurd h.symm hne
    | some p =>
      obtain ⟨v, o'⟩ := p
      rw [hj] at h
      simp only [Option.getD_some] at h
      cases hv : Nat.beq v r.v with
      | false => rw [hv] at h; exact absurd h.symm hne
      | true => rw [hv] at h; simp only at h; rw [beq_true.1 hv, h]
omit [Names] in
theorem RS.found {objs : Upd} {r : Ref} {C : Ob → Prop} {o : Ob} (h : RS objs r C) (ho : Get.ob (look objs) r = o) (hne : o ≠ .gone) : C o := by
  obtain ⟨hg, hj⟩ := ob_some ho hne
  rcases h with h | ⟨_, v, o', ho', h⟩
  · omega
  · rw [hj] at ho'
    injection ho' with ho'
    injection ho' with e1 e2
    subst e2
    rcases h with h | ⟨_, h⟩
    · omega
    · exact h
def viewOk (l : LV) (w n : Nat) : View → Value → Prop
  | .whole, v => v = hdr l n
  | .sub lo hi, v => 0 ≤ lo ∧ lo ≤ hi ∧ hi ≤ n ∧ lo.toNat ≤ l.cap ∧ ∃ o : Nat, v = .slice (l.blk.map fun b => (⟨b, o, none⟩ : Addr)) (hi - lo).toNat (l.cap - lo.toNat) ∧ (l.cap - lo.toNat ≠ 0 → o = l.off + lo.toNat * w)
def Leaf (objs : Upd) (loc : Loc) (F B : Nat → Prop) (w : World) : AV → Value → Prop
  | .dead, _ => True
  | .int k n, v => v = .int k n
  | .bool b, v => v = .bool b
  | .str s, v => v = .string s
  | .nils, v => v = .slice none 0 0
  | .nilp, v => v = .pointer none
  | .il b t xs, v => IRep (fun x => F x ∨ (b = true ∧ B x)) w (.list t) xs [v]
  | .ol r vw, v => v.oneCell' = true ∧ RS objs r fun o => match o with
    | .lst _ _ t xs => viewOk (loc r.s r.j) t.w xs.length vw v
    | .box _ => False
    | .gone => True
  | .ptr r off, v => v.oneCell' = true ∧ RS objs r fun o => match o with
    | .lst _ _ _ _ => False
    | .box _ => ∃ b, (loc r.s r.j).blk = some b ∧ v = .pointer (some ⟨b, off, none⟩)
    | .gone => True
  | .ep r i off, v => v.oneCell' = true ∧ RS objs r fun o => match o with
    | .lst _ _ t xs => ∃ b, (loc r.s r.j).blk = some b ∧ 0 ≤ i ∧ i < (xs.length : Int) ∧ v = .pointer (some ⟨b, (loc r.s r.j).off + i.toNat * t.w + off, none⟩)
    | .box _ => ∃ b, (loc r.s r.j).blk = some b ∧ 0 ≤ i ∧ v = .pointer (some ⟨b, off + i.toNat, none⟩)
    | .gone => True
  | .ip b t xs i off, v => 0 ≤ i ∧ i < (xs.length : Int) ∧ ∃ bl o, v = .pointer (some ⟨bl, o + i.toNat * t.w + off, none⟩) ∧ (F bl ∨ (b = true ∧ B bl)) ∧ bl < w.heap.size ∧ RowsAt (IRep (fun x => F x ∨ (b = true ∧ B x)) w t) w t.w bl o xs
  | .fn f cs, v => cs = [] ∧ v = .func (.func f) #[] #[]
  | .nm n, v => v = Names.nu n
  | .nl r k i off, v => v.oneCell' = true ∧ (k < (look objs SHG).g ∨ (k = (look objs SHG).g ∧ RS objs r fun o => match o with
    | .lst _ _ t xs => 0 ≤ i ∧ i < (xs.length : Int) ∧ (t.olsTy off).isSome = true ∧ ∃ b, (loc r.s r.j).blk = some b ∧ w.cell? ⟨b, (loc r.s r.j).off + i.toNat * t.w + off, none⟩ = some v
    | .box _ => False
    | .gone => True))
  | .np r k i off j off2, v => v.oneCell' = true ∧ (k < (look objs SHG).g ∨ (k = (look objs SHG).g ∧ RS objs r fun o => match o with
    | .lst _ _ t xs => 0 ≤ i ∧ i < (xs.length : Int) ∧ 0 ≤ j ∧ ∃ e u b bl o n c, t.olsTy off = some (e, u) ∧ (loc r.s r.j).blk = some b ∧ w.cell? ⟨b, (loc r.s r.j).off + i.toNat * t.w + off, none⟩ = some (.slice (some ⟨bl, o, none⟩) n c) ∧ j < (n : Int) ∧ v = .pointer (some ⟨bl, o + j.toNat * u.w + off2, none⟩)
    | .box _ => False
    | .gone => True))
  | .agg _, _ => False
  | .tup _, _ => False
def Leafs (objs : Upd) (loc : Loc) (F B : Nat → Prop) (w : World) : List AV → List Value → Prop
  | [], [] => True
  | a :: as, v :: vs => v.oneCell' = true ∧ Leaf objs loc F B w a v ∧ Leafs objs loc F B w as vs
  | _, _ => False
def Val1 (objs : Upd) (loc : Loc) (F B : Nat → Prop) (w : World) : AV → Value → Prop
  | .agg cs, v => ∃ vs : Array Value, v = .agg vs ∧ Leafs objs loc F B w cs vs.toList
  | .fn f cs, v => ∃ vs : Array Value, v = .func (.func f) #[] vs ∧ Leafs objs loc F B w cs vs.toList
  | a, v => Leaf objs loc F B w a v
def Val1s (objs : Upd) (loc : Loc) (F B : Nat → Prop) (w : World) : List AV → List Value → Prop
  | [], [] => True
  | a :: as, v :: vs => Val1 objs loc F B w a v ∧ Val1s objs loc F B w as vs
  | _, _ => False
def Val (objs : Upd) (loc : Loc) (F B : Nat → Prop) (w : World) : AV → Value → Prop
  | .tup cs, v => ∃ vs : Array Value, v = .tuple vs ∧ Val1s objs loc F B w cs vs.toList
  | a, v => Val1 objs loc F B w a v
def Thaw (fr : Nat × Nat) (n : Nat) : Prop := fr = (0, 0) ∨ n ≤ fr.1
def RowsIn {α : Type} (R : α → List Value → Prop) (width : Nat) (vs : List Value) (xs : List α) : Prop :=
  ∀ i (h : i < xs.length), ∃ rs : List Value, rs.length = width ∧ (∀ j, j < width → vs[i * width + j]? = rs[j]?) ∧ R xs[i] rs
def RowsT {α : Type} (R : α → List Value → List Nat → Prop) (width : Nat) (vs : List Value) (xs : List α) (Ss : List (List Nat)) : Prop :=
  Ss.length = xs.length ∧ ∀ (i : Nat) (x : α) (S : List Nat), xs[i]? = some x → Ss[i]? = some S → ∃ rs : List Value, rs.length = width ∧ (∀ j, j < width → vs[i * width + j]? = rs[j]?) ∧ R x rs S
def LstW {α : Type} (R : α → List Value → List Nat → Prop) (width : Nat) (w : World) (l : LV) (z : Bool) (e : Nat) (xs : List α) : Prop :=
  match l.blk with
  | none => xs = [] ∧ l.cap = 0 ∧ l.sub = []
  | some b => ∃ vs fr Ss, w.heap[b]? = some (.cells vs e fr) ∧ (z = false → fr = (0, 0)) ∧ Thaw fr vs.size ∧ xs.length ≤ l.cap ∧ l.cap ≤ maxLen ∧ (l.cap = 0 ∨ vs.size = l.off + l.cap * width) ∧ l.sub = Ss.flatten ∧ (b :: l.sub).Nodup ∧ RowsT R width (vs.toList.drop l.off) xs Ss
def TRep (F : Nat → Prop) (w : World) : (t : Ty) → t.den → List Value → List Nat → Prop
  | .ols e t, xs, cs, S => ∃ l : LV, cs = [hdr l xs.length] ∧ S = l.all ∧ LstW (TRep F w t) t.w w l false e xs
  | .olq e t, x, cs, S => match x with
    | some xs => ∃ l : LV, cs = [hdr l xs.length] ∧ S = l.all ∧ LstW (TRep F w t) t.w w l false e xs
    | none => (∃ v, cs = [v] ∧ v.oneCell' = true) ∧ S = []
  | .pair a b, x, cs, S => ∃ c d S1 S2, cs = c ++ d ∧ S = S1 ++ S2 ∧ TRep F w a x.1 c S1 ∧ TRep F w b x.2 d S2
  | .int k, x, cs, S => IRep F w (.int k) x cs ∧ S = []
  | .bool, x, cs, S => IRep F w .bool x cs ∧ S = []
  | .str, x, cs, S => IRep F w .str x cs ∧ S = []
  | .list t, x, cs, S => IRep F w (.list t) x cs ∧ S = []
  | .unit, x, cs, S => IRep F w .unit x cs ∧ S = []
  | .nm, x, cs, S => IRep F w .nm x cs ∧ S = []
def LstOk (F : Nat → Prop) (w : World) (l : LV) (z : Bool) (e : Nat) (t : Ty) (xs : List t.den) : Prop := LstW (TRep F w t) t.w w l z e xs
def LstOld (F : Nat → Prop) (w : World) (l : LV) (z : Bool) (e : Nat) (t : Ty) (xs : List t.den) : Prop :=
  l.sub = [] ∧ match l.blk with
  | none => xs = [] ∧ l.cap = 0
  | some b => ∃ vs fr, w.heap[b]? = some (.cells vs e fr) ∧ (z = false → fr = (0, 0)) ∧ Thaw fr vs.size ∧ xs.length ≤ l.cap ∧ l.cap ≤ maxLen ∧ (l.cap = 0 ∨ vs.size = l.off + l.cap * t.w) ∧ RowsIn (IRep F w t) t.w (vs.toList.drop l.off) xs
theorem TRep.old {F : Nat → Prop} {w : World} : ∀ {t : Ty} {x : t.den} {cs : List Value} {S : List Nat}, t.hasO = false → TRep F w t x cs S → IRep F w t x cs ∧ S = []
  | .int _, _, _, _, _, h => h
  | .bool, _, _, _, _, h => h
  | .str, _, _, _, _, h => h
  | .list _, _, _, _, _, h => h
  | .unit, _, _, _, _, h => h
  | .nm, _, _, _, _, h => h
  | .ols _ _, _, _, _, ho, _ => by simp [Ty.hasO] at ho
  | .olq _ _, _, _, _, ho, _ => by simp [Ty.hasO] at ho
  | .pair a b, _, _, _, ho, h => by
    simp only [Ty.hasO, Bool.or_eq_false_iff] at ho
    obtain ⟨c, d, S1, S2, rfl, rfl, h1, h2⟩ := h
    obtain ⟨k1, rfl⟩ := h1.old ho.1
    obtain ⟨k2, rfl⟩ := h2.old ho.2
    exact ⟨⟨c, d, rfl, k1, k2⟩, rfl⟩
theorem IRep.trep {F : Nat → Prop} {w : World} : ∀ {t : Ty} {x : t.den} {cs : List Value}, IRep F w t x cs → TRep F w t x cs []
  | .int _, _, _, h => ⟨h, rfl⟩
  | .bool, _, _, h => ⟨h, rfl⟩
  | .str, _, _, h => ⟨h, rfl⟩
  | .list _, _, _, h => ⟨h, rfl⟩
  | .unit, _, _, h => ⟨h, rfl⟩
  | .nm, _, _, h => ⟨h, rfl⟩
  | .ols _ _, _, _, h => h.elim
  | .olq _ _, _, _, h => h.elim
  | .pair a b, _, _, h => by
    obtain ⟨c, d, rfl, h1, h2⟩ := h
    exact ⟨c, d, [], [], rfl, rfl, h1.trep, h2.trep⟩
omit [Names] in
theorem RowsIn.rowsT {α : Type} {R : α → List Value → Prop} {R' : α → List Value → List Nat → Prop} {width : Nat} {vs : List Value} {xs : List α} (h : RowsIn R width vs xs) (hR : ∀ x rs, R x rs → R' x rs []) : RowsT R' width vs xs (xs.map fun _ => []) := by
  refine ⟨by simp, fun i x S hx hS => ?_⟩
  rw [List.getElem?_map, hx] at hS
  simp only [Option.map_some, Option.some.injEq] at hS
  subst hS
  obtain ⟨hi, rfl⟩ := List.getElem?_eq_some_iff.1 hx
  obtain ⟨rs, h1, h2, h3⟩ := h i hi
  exact ⟨rs, h1, h2, hR _ _ h3⟩
omit [Names] in
theorem nils_flatten {α β : Type} : ∀ xs : List α, ((xs.map fun _ => ([] : List β))).flatten = []
  | [] => rfl
  | _ :: xs => by simp [nils_flatten xs]
theorem LstOld.ok {F : Nat → Prop} {w : World} {l : LV} {z : Bool} {e : Nat} {t : Ty} {xs : List t.den} (h : LstOld F w l z e t xs) : LstOk F w l z e t xs := by
  obtain ⟨hsub, h⟩ := h
  unfold LstOk LstW
  cases hb : l.blk with
  | none => rw [hb] at h; exact ⟨h.1, h.2, hsub⟩
  | some b =>
    rw [hb] at h
    obtain ⟨vs, fr, h1, h2, h3, h4, h5, h6, h7⟩ := h
    exact ⟨vs, fr, _, h1, h2, h3, h4, h5, h6, by rw [hsub]; exact (nils_flatten xs).symm, by simp [hsub], h7.rowsT fun x rs hx => hx.trep⟩
theorem LstOk.old {F : Nat → Prop} {w : World} {l : LV} {z : Bool} {e : Nat} {t : Ty} {xs : List t.den} (h : LstOk F w l z e t xs) (ho : t.hasO = false) : LstOld F w l z e t xs := by
  unfold LstOk LstW at h
  unfold LstOld
  cases hb : l.blk with
  | none => rw [hb] at h; exact ⟨h.2.2, h.1, h.2.1⟩
  | some b =>
    rw [hb] at h
    obtain ⟨vs, fr, Ss, h1, h2, h3, h4, h5, h6, h7, _, h8, h9⟩ := h
    have hall : ∀ S ∈ Ss, S = [] := fun S hS => by
      obtain ⟨i, hi, rfl⟩ := List.getElem_of_mem hS
      obtain ⟨rs, _, _, k⟩ := h9 i _ _ (List.getElem?_eq_getElem (by omega)) (List.getElem?_eq_getElem hi)
      exact (k.old ho).2
    refine ⟨?_, vs, fr, h1, h2, h3, h4, h5, h6, fun i hi => ?_⟩
    · rw [h7]; simpa using hall
    · obtain ⟨rs, k1, k2, k3⟩ := h9 i _ _ (List.getElem?_eq_getElem hi) (List.getElem?_eq_getElem (by omega))
      exact ⟨rs, k1, k2, (k3.old ho).1⟩
def ObOk (objs : Upd) (loc : Loc) (F B : Nat → Prop) (w : World) (l : LV) : Ob → Prop
  | .gone => True
  | .box cs => ∃ b vs e fr, l.blk = some b ∧ l.sub = [] ∧ w.heap[b]? = some (.cells vs e fr) ∧ Thaw fr vs.size ∧ Leafs objs loc F B w cs vs.toList
  | .lst z e t xs => LstOk F w l z e t xs
structure SR (base : Nat) (S : List Nat) (B : Nat → Prop) (w0 : World) (objs : Upd) (loc : Loc) (F : Nat → Prop) (w : World) : Prop where
  obs : ∀ s j v o, (look objs s).os[j]? = some (v, o) → ObOk objs loc F B w (loc s j) o
  apart : ∀ s j v o s' j' v' o' b, (look objs s).os[j]? = some (v, o) → (look objs s').os[j']? = some (v', o') → live o = true → live o' = true → b ∈ (loc s j).all → b ∈ (loc s' j').all → s = s' ∧ j = j'
  own : ∀ s j v o b, (look objs s).os[j]? = some (v, o) → live o = true → b ∈ (loc s j).all → ¬ F b ∧ ¬ B b ∧ b < w.heap.size ∧ (base ≤ b ∨ b ∈ S)
  fro : ∀ b, F b → b < w.heap.size
  bor : ∀ b, B b → b < base ∧ b ∉ S
  os : w.os = w0.os
  tape : w.tape = w0.tape
  output : w.output = w0.output
  size : base = w0.heap.size ∧ base ≤ w.heap.size
  block : ∀ b, b < base → b ∉ S → w.heap[b]? = w0.heap[b]?
  tab : ∀ b, Names.gb b → b < base ∧ b ∉ S
  gen0 : Names.gen w0
end Go.Eng
end

section
namespace Go.Eng
variable [Names]
def Compat (l l' : LV) : Ob → Ob → Prop
  | _, .gone => True
  | .lst _ _ t xs, .lst _ _ t' xs' => t = t' ∧ xs.length = xs'.length ∧ l.core = l'.core
  | .box _, .box _ => l.core = l'.core
  | _, _ => False
def OSame (w w' : World) (l : LV) (t : Ty) (n : Nat) : Prop := ∀ b, l.blk = some b → ∀ i off, i < n → (t.olsTy off).isSome = true → w'.cell? ⟨b, l.off + i * t.w + off, none⟩ = w.cell? ⟨b, l.off + i * t.w + off, none⟩
def OKept (w w' : World) (l : LV) : Ob → Prop
  | .lst _ _ t xs => OSame w w' l t xs.length
  | _ => True
omit [Names] in
theorem Ty.olsTy_none : ∀ {t : Ty} (off : Nat), t.hasO = false → t.olsTy off = none
  | .ols _ _, _, h => by simp [Ty.hasO] at h
  | .pair a b, off, h => by
    simp only [Ty.hasO, Bool.or_eq_false_iff] at h
    simp only [Ty.olsTy]
    split
    · exact Ty.olsTy_none off h.1
    · exact Ty.olsTy_none _ h.2
  | .int _, _, _ => by simp [Ty.olsTy]
  | .bool, _, _ => by simp [Ty.olsTy]
  | .str, _, _ => by simp [Ty.olsTy]
  | .list _, _, _ => by simp [Ty.olsTy]
  | .unit, _, _ => by simp [Ty.olsTy]
  | .nm, _, _ => by simp [Ty.olsTy]
  | .olq _ _, _, _ => by simp [Ty.olsTy]
omit [Names] in
theorem OSame.flat {w w' : World} {l : LV} {t : Ty} {n : Nat} (h : t.hasO = false) : OSame w w' l t n := fun b _ i off _ ho => by
  rw [Ty.olsTy_none off h] at ho; cases ho
omit [Names] in
theorem OSame.of_block {w w' : World} {l : LV} {t : Ty} {n : Nat} (h : ∀ b, l.blk = some b → w'.heap[b]? = w.heap[b]?) : OSame w w' l t n := fun b hb _ _ _ _ => World.cell?_of_block (w := w) (h b hb)
omit [Names] in
theorem OKept.of_block {w w' : World} {l : LV} {o : Ob} (h : ∀ b, l.blk = some b → w'.heap[b]? = w.heap[b]?) : OKept w w' l o := by
  cases o <;> first | trivial | exact OSame.of_block h
omit [Names] in
theorem OKept.box {w w' : World} {l : LV} {cs : List AV} : OKept w w' l (.box cs) := trivial
omit [Names] in
theorem OKept.gone {w w' : World} {l : LV} : OKept w w' l .gone := trivial
omit [Names] in
theorem Compat.refl (l : LV) (o : Ob) : Compat l l o o := by
  cases o <;> simp [Compat]
structure Ext (B : Nat → Prop) (objs : Upd) (loc : Loc) (F : Nat → Prop) (w : World) (objs' : Upd) (loc' : Loc) (F' : Nat → Prop) (w' : World) : Prop where
  fro : ∀ b, F b → F' b
  sameF : Same F w w'
  sameB : Same B w w'
  size : w.heap.size ≤ w'.heap.size
  gen : ∀ s, (look objs s).g ≤ (look objs' s).g
  ver : ∀ s j v o, (look objs s).g = (look objs' s).g → (look objs s).os[j]? = some (v, o) →
    ∃ v' o', (look objs' s).os[j]? = some (v', o') ∧ v ≤ v' ∧ (v = v' → Compat (loc s j) (loc' s j) o o')
  nest : (look objs SHG).g = (look objs' SHG).g → ∀ s j v o o', (look objs s).g = (look objs' s).g → (look objs s).os[j]? = some (v, o) → (look objs' s).os[j]? = some (v, o') → live o' = true → OKept w w' (loc s j) o
section
variable {B F F' F'' : Nat → Prop} {objs objs' objs'' : Upd} {loc loc' loc'' : Loc} {w w' w'' : World}
omit [Names] in
theorem Compat.trans {l l' l'' : LV} {o o' o'' : Ob} (h : Compat l l' o o') (h' : Compat l' l'' o' o'') : Compat l l'' o o'' := by
  cases o'' with
  | gone => cases o <;> simp [Compat]
  | box c =>
    cases o' with
    | gone => simp [Compat] at h'
    | lst => simp [Compat] at h'
    | box c' =>
      cases o with
      | gone => simp [Compat] at h
      | lst => simp [Compat] at h
      | box => simp [Compat] at *; rw [h, h']
  | lst z e t xs =>
    cases o' with
    | gone => simp [Compat] at h'
    | box => simp [Compat] at h'
    | lst z' e' t' xs' =>
      cases o with
      | gone => simp [Compat] at h
      | box => simp [Compat] at h
      | lst =>
        simp only [Compat] at *
        obtain ⟨h1, h2, h3⟩ := h
        obtain ⟨k1, k2, k3⟩ := h'
        exact ⟨h1.trans k1, h2.trans k2, h3.trans k3⟩
omit [Names] in
theorem Compat.live {l l' : LV} {o o' : Ob} (h : Compat l l' o o') (ho : live o' = true) : live o = true := by
  cases o' with
  | gone => simp [Go.Eng.live] at ho
  | box => cases o <;> simp [Compat, Go.Eng.live] at *
  | lst => cases o <;> simp [Compat, Go.Eng.live] at *
omit [Names] in
theorem OKept.trans {w w' w'' : World} {l l' : LV} {o o' : Ob} (hc : Compat l l' o o') (h : OKept w w' l o) (k : OKept w' w'' l' o') (ho : live o' = true) : OKept w w'' l o := by
  cases o with
  | gone => trivial
  | box => trivial
  | lst z e t xs =>
    cases o' with
    | gone => simp [Go.Eng.live] at ho
    | box => simp [Compat] at hc
    | lst z' e' t' xs' =>
      obtain ⟨rfl, h2, h3⟩ := hc
      obtain ⟨c1, c2, c3⟩ := LV.core_eq h3
      intro b hb i off hi ho'
      have k := k b (by rw [← c1]; exact hb) i off (by rw [← h2]; exact hi) ho'
      rw [← c2] at k
      exact k.trans (h b hb i off hi ho')
omit [Names] in
theorem Ext.refl (B : Nat → Prop) (objs : Upd) (loc : Loc) (F : Nat → Prop) (w : World) : Ext B objs loc F w objs loc F w :=
  ⟨fun _ h => h, fun _ _ => rfl, fun _ _ => rfl, Nat.le_refl _, fun _ => Nat.le_refl _, fun _ _ v o _ h => ⟨v, o, h, Nat.le_refl _, fun _ => Compat.refl _ _⟩, fun _ _ _ _ _ _ _ _ _ _ => OKept.of_block fun _ _ => rfl⟩
omit [Names] in
theorem Ext.trans (h : Ext B objs loc F w objs' loc' F' w') (k : Ext B objs' loc' F' w' objs'' loc'' F'' w'') : Ext B objs loc F w objs'' loc'' F'' w'' where
  fro b hb := k.fro b (h.fro b hb)
  sameF b hb := (k.sameF b (h.fro b hb)).trans (h.sameF b hb)
  sameB b hb := (k.sameB b hb).trans (h.sameB b hb)
  size := Nat.le_trans h.size k.size
  gen s := Nat.le_trans (h.gen s) (k.gen s)
  ver s j v o hg ho := by
    have g1 := h.gen s
    have g2 := k.gen s
    obtain ⟨v1, o1, h1, hv1, hc1⟩ := h.ver s j v o (by omega) ho
    obtain ⟨v2, o2, h2, hv2, hc2⟩ := k.ver s j v1 o1 (by omega) h1
    refine ⟨v2, o2, h2, by omega, fun e => ?_⟩
    have e1 : v = v1 := by omega
    have e2 : v1 = v2 := by omega
    exact (hc1 e1).trans (hc2 e2)
  nest hg s j v o o'' hs ho ho'' hl := by
    have g1 := h.gen SHG
    have g2 := k.gen SHG
    have g3 := h.gen s
    have g4 := k.gen s
    obtain ⟨v1, o1, h1, hv1, hc1⟩ := h.ver s j v o (by omega) ho
    obtain ⟨v2, o2, h2, hv2, hc2⟩ := k.ver s j v1 o1 (by omega) h1
    rw [ho''] at h2
    injection h2 with h2
    injection h2 with e1 e2
    subst e1; subst e2
    have e1 : v = v1 := by omega
    subst e1
    have l1 := (hc2 rfl).live hl
    exact OKept.trans (hc1 rfl) (h.nest (by omega) s j v o o1 (by omega) ho h1 l1) (k.nest (by omega) s j v o1 o'' (by omega) h1 ho'' hl) l1
omit [Names] in
theorem RS.ext {r : Ref} {C C' : Ob → Prop} (h : RS objs r C) (x : Ext B objs loc F w objs' loc' F' w')
    (hC : ∀ o o', Compat (loc r.s r.j) (loc' r.s r.j) o o' → C o → C' o') : RS objs' r C' := by
  have hg := x.gen r.s
  rcases h with h | ⟨he, v, o, ho, h⟩
  · exact .inl (by omega)
  · by_cases e : (look objs r.s).g = (look objs' r.s).g
    · obtain ⟨v', o', ho', hv, hc⟩ := x.ver r.s r.j v o e ho
      refine .inr ⟨by omega, v', o', ho', ?_⟩
      rcases h with h | ⟨h, c⟩
      · exact .inl (by omega)
      · by_cases e2 : v = v'
        · exact .inr ⟨by omega, hC o o' (hc e2) c⟩
        · exact .inl (by omega)
    · exact .inl (by omega)
omit [Names] in
theorem viewOk.core {l l' : LV} {w n : Nat} {vw : View} {v : Value} (h : l.core = l'.core) (k : viewOk l w n vw v) : viewOk l' w n vw v := by
  obtain ⟨b, o, c, u⟩ := l
  obtain ⟨b', o', c', u'⟩ := l'
  obtain ⟨e1, e2, e3⟩ := LV.core_eq h
  dsimp only at e1 e2 e3
  subst e1 e2 e3
  cases vw <;> exact k
omit [Names] in
theorem RS.ext' {r : Ref} {C C' : Ob → Prop} (h : RS objs r C) (x : Ext B objs loc F w objs' loc' F' w')
    (hC : ∀ o o', live o' = true → Compat (loc r.s r.j) (loc' r.s r.j) o o' → (look objs r.s).g = (look objs' r.s).g → (look objs r.s).os[r.j]? = some (r.v, o) → (look objs' r.s).os[r.j]? = some (r.v, o') → C o → C' o') (hg0 : C' .gone) : RS objs' r C' := by
  have hg := x.gen r.s
  rcases h with h | ⟨he, v, o, ho, h⟩
  · exact .inl (by omega)
  · by_cases e : (look objs r.s).g = (look objs' r.s).g
    · obtain ⟨v', o', ho', hv, hc⟩ := x.ver r.s r.j v o e ho
      refine .inr ⟨by omega, v', o', ho', ?_⟩
      rcases h with h | ⟨h, c⟩
      · exact .inl (by omega)
      · by_cases e2 : v = v'
        · refine .inr ⟨by omega, ?_⟩
          subst e2
          cases hl : live o' with
          | false => cases o' <;> simp [live] at hl; exact hg0
          | true => exact hC o o' hl (hc rfl) e (by rw [h]; exact ho) (by rw [h]; exact ho') c
        · exact .inl (by omega)
    · exact .inl (by omega)
theorem IRep.ext {b : Bool} {t : Ty} {x : t.den} {cs : List Value} (x' : Ext B objs loc F w objs' loc' F' w')
    (h : IRep (fun i => F i ∨ (b = true ∧ B i)) w t x cs) : IRep (fun i => F' i ∨ (b = true ∧ B i)) w' t x cs :=
  h.mono (fun _ hi => hi.imp (x'.fro _) id) (fun i hi => by
    rcases hi with hi | ⟨_, hi⟩
    · exact x'.sameF i hi
    · exact x'.sameB i hi)
theorem IRep.extF {t : Ty} {x : t.den} {cs : List Value} (x' : Ext B objs loc F w objs' loc' F' w')
    (h : IRep F w t x cs) : IRep F' w' t x cs := h.mono (fun _ hi => x'.fro _ hi) x'.sameF
theorem Leaf.ext (x : Ext B objs loc F w objs' loc' F' w') : ∀ {a : AV} {v : Value}, Leaf objs loc F B w a v → Leaf objs' loc' F' B w' a v
  | .dead, _, _ => trivial
  | .int _ _, _, h => h
  | .bool _, _, h => h
  | .str _, _, h => h
  | .nils, _, h => h
  | .nilp, _, h => h
  | .il b t xs, v, h => IRep.ext (b := b) x h
  | .ol r vw, v, h => ⟨h.1, RS.ext h.2 x fun o o' hc c => by
    cases o <;> cases o' <;> simp only [Compat] at hc <;> try trivial
    obtain ⟨rfl, hl, hloc⟩ := hc
    dsimp only at c ⊢
    rw [← hl]
    exact viewOk.core hloc c⟩
  | .ptr r off, v, h => ⟨h.1, RS.ext h.2 x fun o o' hc c => by
    cases o <;> cases o' <;> simp only [Compat] at hc <;> try trivial
    obtain ⟨b, hb, hv⟩ := c
    exact ⟨b, by rw [← (LV.core_eq hc).1]; exact hb, hv⟩⟩
  | .ep r i off, v, h => ⟨h.1, RS.ext h.2 x fun o o' hc c => by
    cases o <;> cases o' <;> simp only [Compat] at hc <;> try trivial
    · obtain ⟨b, hb, h0, hv⟩ := c
      exact ⟨b, by rw [← (LV.core_eq hc).1]; exact hb, h0, hv⟩
    · obtain ⟨rfl, hl, hloc⟩ := hc
      obtain ⟨b, hb, h0, h1, hv⟩ := c
      obtain ⟨c1, c2, c3⟩ := LV.core_eq hloc
      exact ⟨b, by rw [← c1]; exact hb, h0, by rw [← hl]; exact h1, by rw [← c2]; exact hv⟩⟩
  | .nm _, _, h => h
  | .nl r k i off, v, h => ⟨h.1, by
    have hg := x.gen SHG
    rcases h.2 with hk | ⟨hk, hr⟩
    · exact .inl (by omega)
    · by_cases e : (look objs SHG).g = (look objs' SHG).g
      · refine .inr ⟨by omega, RS.ext' hr x (fun o o' hl hc hg' ho ho' c => ?_) trivial⟩
        have hn := x.nest e r.s r.j r.v o o' hg' ho ho' hl
        cases o <;> cases o' <;> simp only [Compat] at hc <;> try trivial
        obtain ⟨rfl, hlen, hloc⟩ := hc
        obtain ⟨h0, h1, h2, b, hb, hcell⟩ := c
        obtain ⟨c1, c2, c3⟩ := LV.core_eq hloc
        refine ⟨h0, by rw [← hlen]; exact h1, h2, b, by rw [← c1]; exact hb, ?_⟩
        rw [← c2, ← hcell]
        exact hn b hb i.toNat off (by omega) h2
      · exact .inl (by omega)⟩
  | .np r k i off j off2, v, h => ⟨h.1, by
    have hg := x.gen SHG
    rcases h.2 with hk | ⟨hk, hr⟩
    · exact .inl (by omega)
    · by_cases e : (look objs SHG).g = (look objs' SHG).g
      · refine .inr ⟨by omega, RS.ext' hr x (fun o o' hl hc hg' ho ho' c => ?_) trivial⟩
        have hn := x.nest e r.s r.j r.v o o' hg' ho ho' hl
        cases o <;> cases o' <;> simp only [Compat] at hc <;> try trivial
        obtain ⟨rfl, hlen, hloc⟩ := hc
        obtain ⟨h0, h1, h2, e', u, b, bl, o, n, c, ht, hb, hcell, hj, hv⟩ := c
        obtain ⟨c1, c2, c3⟩ := LV.core_eq hloc
        refine ⟨h0, by rw [← hlen]; exact h1, h2, e', u, b, bl, o, n, c, ht, by rw [← c1]; exact hb, ?_, hj, hv⟩
        rw [← c2, ← hcell]
        exact hn b hb i.toNat off (by omega) (by rw [ht]; rfl)
      · exact .inl (by omega)⟩
  | .ip b t xs i off, v, h => by
    obtain ⟨h0, h1, bl, o, hv, hF, hlt, hr⟩ := h
    have hs : w'.heap[bl]? = w.heap[bl]? := by
      rcases hF with hF | ⟨_, hF⟩
      · exact x.sameF bl hF
      · exact x.sameB bl hF
    refine ⟨h0, h1, bl, o, hv, hF.imp (x.fro _) id, Nat.lt_of_lt_of_le hlt x.size, fun i hi => ?_⟩
    obtain ⟨rs, hl, hc, hrep⟩ := hr i hi
    exact ⟨rs, hl, fun j v hj => (World.cell?_of_block (w := w) (a := ⟨bl, _, none⟩) hs).trans (hc j v hj), IRep.ext (b := b) x hrep⟩
  | .fn _ _, _, h => h
  | .agg _, _, h => h.elim
  | .tup _, _, h => h.elim
theorem Leafs.ext (x : Ext B objs loc F w objs' loc' F' w') : ∀ {as : List AV} {vs : List Value}, Leafs objs loc F B w as vs → Leafs objs' loc' F' B w' as vs
  | [], [], _ => trivial
  | _ :: _, _ :: _, h => ⟨h.1, h.2.1.ext x, h.2.2.ext x⟩
  | [], _ :: _, h => h.elim
  | _ :: _, [], h => h.elim
theorem Val1.ext (x : Ext B objs loc F w objs' loc' F' w') : ∀ {a : AV} {v : Value}, Val1 objs loc F B w a v → Val1 objs' loc' F' B w' a v
  | .agg _, _, ⟨vs, e, h⟩ => ⟨vs, e, h.ext x⟩
  | .fn _ _, _, ⟨vs, e, h⟩ => ⟨vs, e, h.ext x⟩
  | .dead, _, _ => trivial
  | .int _ _, _, h => h
  | .bool _, _, h => h
  | .str _, _, h => h
  | .nils, _, h => h
  | .nilp, _, h => h
  | .il b t xs, _, h => Leaf.ext (a := .il b t xs) x h
  | .ol r w, _, h => Leaf.ext (a := .ol r w) x h
  | .ptr r o, _, h => Leaf.ext (a := .ptr r o) x h
  | .ep r i o, _, h => Leaf.ext (a := .ep r i o) x h
  | .ip b t xs i o, _, h => Leaf.ext (a := .ip b t xs i o) x h
  | .nm n, _, h => h
  | .nl r k i off, _, h => Leaf.ext (a := .nl r k i off) x h
  | .np r k i off j o2, _, h => Leaf.ext (a := .np r k i off j o2) x h
  | .tup _, _, h => h.elim
theorem Val1s.ext (x : Ext B objs loc F w objs' loc' F' w') : ∀ {as : List AV} {vs : List Value}, Val1s objs loc F B w as vs → Val1s objs' loc' F' B w' as vs
  | [], [], _ => trivial
  | _ :: _, _ :: _, h => ⟨h.1.ext x, h.2.ext x⟩
  | [], _ :: _, h => h.elim
  | _ :: _, [], h => h.elim
theorem Val.ext (x : Ext B objs loc F w objs' loc' F' w') : ∀ {a : AV} {v : Value}, Val objs loc F B w a v → Val objs' loc' F' B w' a v
  | .tup _, _, ⟨vs, e, h⟩ => ⟨vs, e, h.ext x⟩
  | .agg cs, _, h => Val1.ext (a := .agg cs) x h
  | .fn f cs, _, h => Val1.ext (a := .fn f cs) x h
  | .dead, _, _ => trivial
  | .int _ _, _, h => h
  | .bool _, _, h => h
  | .str _, _, h => h
  | .nils, _, h => h
  | .nilp, _, h => h
  | .il b t xs, _, h => Leaf.ext (a := .il b t xs) x h
  | .ol r w, _, h => Leaf.ext (a := .ol r w) x h
  | .ptr r o, _, h => Leaf.ext (a := .ptr r o) x h
  | .ep r i o, _, h => Leaf.ext (a := .ep r i o) x h
  | .ip b t xs i o, _, h => Leaf.ext (a := .ip b t xs i o) x h
  | .nm n, _, h => h
  | .nl r k i off, _, h => Leaf.ext (a := .nl r k i off) x h
  | .np r k i off j o2, _, h => Leaf.ext (a := .np r k i off j o2) x h
omit [Names] in
theorem RowsT.mono {α : Type} {R R' : α → List Value → List Nat → Prop} {width : Nat} {vs : List Value} {xs : List α} {Ss : List (List Nat)} (h : RowsT R width vs xs Ss) (hR : ∀ x rs S, S ∈ Ss → R x rs S → R' x rs S) : RowsT R' width vs xs Ss :=
  ⟨h.1, fun i x S hx hS => by
    obtain ⟨rs, h1, h2, h3⟩ := h.2 i x S hx hS
    exact ⟨rs, h1, h2, hR _ _ _ (List.mem_of_getElem? hS) h3⟩⟩
omit [Names] in
theorem LstW.mono {α : Type} {R R' : α → List Value → List Nat → Prop} {width : Nat} {w w' : World} {l : LV} {z : Bool} {e : Nat} {xs : List α} (h : LstW R width w l z e xs) (hb : ∀ b ∈ l.all, w'.heap[b]? = w.heap[b]?) (hR : ∀ x rs S, (∀ b ∈ S, b ∈ l.sub) → R x rs S → R' x rs S) : LstW R' width w' l z e xs := by
  unfold LstW at h ⊢
  cases hl : l.blk with
  | none => rw [hl] at h; exact h
  | some b =>
    rw [hl] at h
    obtain ⟨vs, fr, Ss, hh, hz, ht, h1, h2, h3, h4, hn, hr⟩ := h
    exact ⟨vs, fr, Ss, (hb b (LV.mem_blk hl)).trans hh, hz, ht, h1, h2, h3, h4, hn, hr.mono fun x rs S hS hx => hR x rs S (fun b hb => by rw [h4]; exact List.mem_flatten.2 ⟨S, hS, hb⟩) hx⟩
theorem TRep.mono {F F' : Nat → Prop} {w w' : World} (hF : ∀ b, F b → F' b) (hs : Same F w w') : ∀ {t : Ty} {x : t.den} {cs : List Value} {S : List Nat}, (∀ b ∈ S, w'.heap[b]? = w.heap[b]?) → TRep F w t x cs S → TRep F' w' t x cs S
  | .int _, _, _, _, _, h => h
  | .bool, _, _, _, _, h => h
  | .str, _, _, _, _, h => h
  | .unit, _, _, _, _, h => h
  | .nm, _, _, _, _, h => h
  | .list _, _, _, _, _, h => ⟨h.1.mono hF hs, h.2⟩
  | .pair a b, _, _, _, hS, h => by
    obtain ⟨c, d, S1, S2, rfl, rfl, h1, h2⟩ := h
    exact ⟨c, d, S1, S2, rfl, rfl, TRep.mono hF hs (fun b hb => hS b (List.mem_append_left _ hb)) h1, TRep.mono hF hs (fun b hb => hS b (List.mem_append_right _ hb)) h2⟩
  | .ols e t, xs, _, _, hS, h => by
    obtain ⟨l, rfl, rfl, h⟩ := h
    exact ⟨l, rfl, rfl, h.mono hS fun x rs S hs' hx => TRep.mono hF hs (fun b hb => hS b (LV.mem_sub (hs' b hb))) hx⟩
  | .olq e t, x, _, _, hS, h => by
    cases x with
    | none => exact h
    | some xs =>
      obtain ⟨l, rfl, rfl, h⟩ := h
      exact ⟨l, rfl, rfl, h.mono hS fun x rs S hs' hx => TRep.mono hF hs (fun b hb => hS b (LV.mem_sub (hs' b hb))) hx⟩
theorem LstOk.mono {F F' : Nat → Prop} {w w' : World} {l : LV} {z : Bool} {e : Nat} {t : Ty} {xs : List t.den} (h : LstOk F w l z e t xs) (hF : ∀ b, F b → F' b) (hs : Same F w w') (hb : ∀ b ∈ l.all, w'.heap[b]? = w.heap[b]?) : LstOk F' w' l z e t xs :=
  LstW.mono h hb fun _ _ _ hS hx => hx.mono hF hs fun b hb' => hb b (LV.mem_sub (hS b hb'))
theorem LstOk.ext {l : LV} {z : Bool} {e : Nat} {t : Ty} {xs : List t.den} (x : Ext B objs loc F w objs' loc' F' w') (h : LstOk F w l z e t xs)
    (hb : ∀ b ∈ l.all, w'.heap[b]? = w.heap[b]?) : LstOk F' w' l z e t xs := h.mono x.fro x.sameF hb
theorem ObOk.ext {l : LV} {o : Ob} (x : Ext B objs loc F w objs' loc' F' w') (h : ObOk objs loc F B w l o)
    (hb : ∀ b ∈ l.all, w'.heap[b]? = w.heap[b]?) : ObOk objs' loc' F' B w' l o := by
  cases o with
  | gone => trivial
  | box cs =>
    obtain ⟨b, vs, e, fr, hl, hsub, hh, ht, hc⟩ := h
    exact ⟨b, vs, e, fr, hl, hsub, (hb b (LV.mem_blk hl)).trans hh, ht, hc.ext x⟩
  | lst z e t xs => exact LstOk.ext x h hb
end
section
variable {base : Nat} {S : List Nat} {B F : Nat → Prop} {w0 : World} {objs : Upd} {loc : Loc} {w : World}
def Loc.set (loc : Loc) (s j : Nat) (l : LV) : Loc := fun s' j' => if s' = s ∧ j' = j then l else loc s' j'
omit [Names] in
theorem Loc.set_same (loc : Loc) (s j : Nat) (l : LV) : loc.set s j l s j = l := by simp [Loc.set]
omit [Names] in
theorem Loc.set_ne (loc : Loc) (s j : Nat) (l : LV) {s' j' : Nat} (h : ¬(s' = s ∧ j' = j)) : loc.set s j l s' j' = loc s' j' := by simp [Loc.set, h]
structure Step (base : Nat) (S : List Nat) (w0 : World) (B F : Nat → Prop) (w w' : World) : Prop where
  sameF : Same F w w'
  sameB : Same B w w'
  os : w'.os = w.os
  tape : w'.tape = w.tape
  output : w'.output = w.output
  size : w.heap.size ≤ w'.heap.size
  block : ∀ b, b < base → b ∉ S → w'.heap[b]? = w.heap[b]?
theorem SR.frame {F' : Nat → Prop} {objs' : Upd} {loc' : Loc} {w' : World} (h : SR base S B w0 objs loc F w) (st : Step base S w0 B F w w')
    (obs : ∀ s j v o, (look objs' s).os[j]? = some (v, o) → ObOk objs' loc' F' B w' (loc' s j) o)
    (apart : ∀ s j v o s' j' v' o' b, (look objs' s).os[j]? = some (v, o) → (look objs' s').os[j']? = some (v', o') → live o = true → live o' = true → b ∈ (loc' s j).all → b ∈ (loc' s' j').all → s = s' ∧ j = j')
    (own : ∀ s j v o b, (look objs' s).os[j]? = some (v, o) → live o = true → b ∈ (loc' s j).all → ¬ F' b ∧ ¬ B b ∧ b < w'.heap.size ∧ (base ≤ b ∨ b ∈ S))
    (fro : ∀ b, F' b → b < w'.heap.size) : SR base S B w0 objs' loc' F' w' :=
  ⟨obs, apart, own, fro, h.bor, st.os.trans h.os, st.tape.trans h.tape, st.output.trans h.output, ⟨h.size.1, Nat.le_trans h.size.2 st.size⟩, fun b hb hS => (st.block b hb hS).trans (h.block b hb hS), h.tab, h.gen0⟩
theorem SR.turnG {F' : Nat → Prop} {w' : World} {s j v v' : Nat} {o o' : Ob} {l' : LV} {objs' : Upd} (h : SR base S B w0 objs loc F w) (st : Step base S w0 B F w w')
    (hgen : ∀ s', (look objs s').g ≤ (look objs' s').g)
    (hnew : ∀ s' j' e, (look objs' s').os[j']? = some e → ¬(s' = s ∧ j' = j) → (look objs s').os[j']? = some e)
    (hat : ∀ e, (look objs' s).os[j]? = some e → e = (v', o')) (hat' : (look objs s).g = (look objs' s).g → (look objs' s).os[j]? = some (v', o'))
    (hold : ∀ s' j' e, (look objs s').g = (look objs' s').g → (look objs s').os[j']? = some e → ¬(s' = s ∧ j' = j) → (look objs' s').os[j']? = some e)
    (hob : (look objs s).os[j]? = some (v, o)) (hv : v < v' ∨ (v = v' ∧ Compat (loc s j) l' o o' ∧ ((look objs SHG).g = (look objs' SHG).g → OKept w w' (loc s j) o)))
    (others : ∀ b, (live o = true → b ∉ (loc s j).all) → b < w.heap.size → w'.heap[b]? = w.heap[b]?)
    (hF : ∀ b, F b → F' b) (hF' : ∀ b, F' b → F b ∨ (live o = true ∧ b ∈ (loc s j).all))
    (hx : Ext B objs loc F w objs' (loc.set s j l') F' w' → ObOk objs' (loc.set s j l') F' B w' l' o')
    (hown : live o' = true → ∀ b ∈ l'.all, ¬ F' b ∧ ¬ B b ∧ b < w'.heap.size ∧ (base ≤ b ∨ b ∈ S) ∧ (∀ s1 j1 v1 o1, (look objs s1).os[j1]? = some (v1, o1) → live o1 = true → b ∈ (loc s1 j1).all → s1 = s ∧ j1 = j)) :
    SR base S B w0 objs' (loc.set s j l') F' w' ∧ Ext B objs loc F w objs' (loc.set s j l') F' w' := by
  have keep : ∀ s1 j1 v1 o1, (look objs s1).os[j1]? = some (v1, o1) → ¬(s1 = s ∧ j1 = j) → live o1 = true → ∀ b ∈ (loc s1 j1).all, w'.heap[b]? = w.heap[b]? := by
    intro s1 j1 v1 o1 h1 hne hl b hb
    have hlt := (h.own s1 j1 v1 o1 b h1 hl hb).2.2.1
    exact others b (fun hlo hbb => hne (h.apart s1 j1 v1 o1 s j v o b h1 hob hl hlo hb hbb)) hlt
  have ext : Ext B objs loc F w objs' (loc.set s j l') F' w' := by
    refine ⟨hF, st.sameF, st.sameB, st.size, hgen, fun s' j' v1 o1 hg ho1 => ?_, fun hgg s' j' v1 o1 o2 hg ho1 ho2 hl2 => ?_⟩
    · by_cases e : s' = s ∧ j' = j
      · obtain ⟨rfl, rfl⟩ := e
        rw [hob] at ho1
        injection ho1 with ho1
        injection ho1 with e1 e2
        subst e1; subst e2
        refine ⟨v', o', hat' hg, ?_, fun e => ?_⟩
        · rcases hv with hv | ⟨hv, _⟩ <;> omega
        · rw [Loc.set_same]
          rcases hv with hv | ⟨_, hv, _⟩
          · omega
          · exact hv
      · refine ⟨v1, o1, hold s' j' _ hg ho1 e, Nat.le_refl _, fun _ => ?_⟩
        rw [Loc.set_ne _ _ _ _ e]
        exact Compat.refl _ _
    · by_cases e : s' = s ∧ j' = j
      · obtain ⟨rfl, rfl⟩ := e
        rw [hob] at ho1
        injection ho1 with ho1
        injection ho1 with e1 e2
        subst e1; subst e2
        have := hat _ ho2
        injection this with e1 e2
        rcases hv with hv | ⟨_, _, hv⟩
        · omega
        · exact hv hgg
      · cases hl : live o1 with
        | false => cases o1 <;> simp [live] at hl; trivial
        | true => exact OKept.of_block fun b hb => keep s' j' v1 o1 ho1 e hl b (LV.mem_blk hb)
  refine ⟨h.frame st ?_ ?_ ?_ ?_, ext⟩
  · intro s1 j1 v1 o1 ho1
    by_cases e : s1 = s ∧ j1 = j
    · obtain ⟨rfl, rfl⟩ := e
      have := hat _ ho1
      injection this with e1 e2
      subst e1; subst e2
      rw [Loc.set_same]
      exact hx ext
    · have ho1 := hnew _ _ _ ho1 e
      rw [Loc.set_ne _ _ _ _ e]
      cases hl : live o1 with
      | false => cases o1 <;> simp [live] at hl; trivial
      | true => exact (h.obs s1 j1 v1 o1 ho1).ext ext (keep s1 j1 v1 o1 ho1 e hl)
  · intro s1 j1 v1 o1 s2 j2 v2 o2 b h1 h2 l1 l2 b1 b2
    by_cases e1 : s1 = s ∧ j1 = j
    · by_cases e2 : s2 = s ∧ j2 = j
      · exact ⟨e1.1.trans e2.1.symm, e1.2.trans e2.2.symm⟩
      · exfalso
        obtain ⟨rfl, rfl⟩ := e1
        have := hat _ h1
        injection this with k1 k2
        subst k1; subst k2
        rw [Loc.set_same] at b1
        rw [Loc.set_ne _ _ _ _ e2] at b2
        exact e2 ((hown l1 b b1).2.2.2.2 s2 j2 v2 o2 (hnew _ _ _ h2 e2) l2 b2)
    · by_cases e2 : s2 = s ∧ j2 = j
      · exfalso
        obtain ⟨rfl, rfl⟩ := e2
        have := hat _ h2
        injection this with k1 k2
        subst k1; subst k2
        rw [Loc.set_same] at b2
        rw [Loc.set_ne _ _ _ _ e1] at b1
        exact e1 ((hown l2 b b2).2.2.2.2 s1 j1 v1 o1 (hnew _ _ _ h1 e1) l1 b1)
      · rw [Loc.set_ne _ _ _ _ e1] at b1
        rw [Loc.set_ne _ _ _ _ e2] at b2
        exact h.apart _ _ _ _ _ _ _ _ b (hnew _ _ _ h1 e1) (hnew _ _ _ h2 e2) l1 l2 b1 b2
  · intro s1 j1 v1 o1 b h1 l1 b1
    by_cases e1 : s1 = s ∧ j1 = j
    · obtain ⟨rfl, rfl⟩ := e1
      have := hat _ h1
      injection this with k1 k2
      subst k1; subst k2
      rw [Loc.set_same] at b1
      obtain ⟨k1, k2, k3, k4, _⟩ := hown l1 b b1
      exact ⟨k1, k2, k3, k4⟩
    · have h1 := hnew _ _ _ h1 e1
      rw [Loc.set_ne _ _ _ _ e1] at b1
      obtain ⟨k1, k2, k3, k4⟩ := h.own s1 j1 v1 o1 b h1 l1 b1
      refine ⟨fun hf => ?_, k2, Nat.lt_of_lt_of_le k3 st.size, k4⟩
      rcases hF' b hf with hf | ⟨hlo, hbb⟩
      · exact k1 hf
      · exact e1 (h.apart s1 j1 v1 o1 s j v o b h1 hob l1 hlo b1 hbb)
  · intro b hb
    rcases hF' b hb with hb | ⟨hlo, hbb⟩
    · exact Nat.lt_of_lt_of_le (h.fro b hb) st.size
    · exact Nat.lt_of_lt_of_le (h.own s j v o b hob hlo hbb).2.2.1 st.size
theorem SR.nobody {s j v b : Nat} {o : Ob} (h : SR base S B w0 objs loc F w) (hob : (look objs s).os[j]? = some (v, o)) (hb : (live o = true ∧ b ∈ (loc s j).all) ∨ w.heap.size ≤ b) :
    ∀ s1 j1 v1 o1, (look objs s1).os[j1]? = some (v1, o1) → live o1 = true → b ∈ (loc s1 j1).all → s1 = s ∧ j1 = j := by
  intro s1 j1 v1 o1 h1 l1 b1
  rcases hb with ⟨hlo, hbb⟩ | hge
  · exact h.apart s1 j1 v1 o1 s j v o b h1 hob l1 hlo b1 hbb
  · have := (h.own s1 j1 v1 o1 b h1 l1 b1).2.2.1
    omega
omit [Names] in
theorem put_facts {s j : Nat} {e0 : Nat × Ob} (hj : j < (look objs s).os.length) :
    (∀ s', (look (put objs s ⟨(look objs s).g, (look objs s).os.set j e0⟩) s').g = (look objs s').g) ∧
    (∀ s' j', (look (put objs s ⟨(look objs s).g, (look objs s).os.set j e0⟩) s').os[j']? = if s' = s ∧ j' = j then some e0 else (look objs s').os[j']?) := by
  have hlook : ∀ s', look (put objs s ⟨(look objs s).g, (look objs s).os.set j e0⟩) s' = if s = s' then ⟨(look objs s).g, (look objs s).os.set j e0⟩ else look objs s' := look_put _ _ _
  refine ⟨fun s' => by rw [hlook]; split <;> simp_all, fun s' j' => ?_⟩
  rw [hlook]
  by_cases e : s = s'
  · subst e
    simp only [if_true]
    by_cases ej : j' = j
    · subst ej; simp [hj]
    · rw [List.getElem?_set_ne (by omega)]; simp [ej]
  · rw [if_neg e, if_neg (by intro hh; exact e hh.1.symm)]
theorem SR.turn {F' : Nat → Prop} {w' : World} {s j v v' : Nat} {o o' : Ob} {l' : LV} (h : SR base S B w0 objs loc F w) (st : Step base S w0 B F w w')
    (hob : (look objs s).os[j]? = some (v, o)) (hv : v < v' ∨ (v = v' ∧ Compat (loc s j) l' o o' ∧ OKept w w' (loc s j) o))
    (others : ∀ b, (live o = true → b ∉ (loc s j).all) → b < w.heap.size → w'.heap[b]? = w.heap[b]?)
    (hF : ∀ b, F b → F' b) (hF' : ∀ b, F' b → F b ∨ (live o = true ∧ b ∈ (loc s j).all))
    (hx : Ext B objs loc F w (put objs s ⟨(look objs s).g, (look objs s).os.set j (v', o')⟩) (loc.set s j l') F' w' → ObOk (put objs s ⟨(look objs s).g, (look objs s).os.set j (v', o')⟩) (loc.set s j l') F' B w' l' o')
    (hown : live o' = true → ∀ b ∈ l'.all, ¬ F' b ∧ ¬ B b ∧ b < w'.heap.size ∧ (base ≤ b ∨ b ∈ S) ∧ ((live o = true ∧ b ∈ (loc s j).all) ∨ w.heap.size ≤ b)) :
    SR base S B w0 (put objs s ⟨(look objs s).g, (look objs s).os.set j (v', o')⟩) (loc.set s j l') F' w' ∧
    Ext B objs loc F w (put objs s ⟨(look objs s).g, (look objs s).os.set j (v', o')⟩) (loc.set s j l') F' w' := by
  have hj : j < (look objs s).os.length := (List.getElem?_eq_some_iff.1 hob).1
  obtain ⟨hgen, hget⟩ := put_facts (objs := objs) (s := s) (e0 := (v', o')) hj
  refine h.turnG st (fun s' => Nat.le_of_eq (hgen s').symm) (fun s' j' e he hne => by rw [hget, if_neg hne] at he; exact he) (fun e he => by rw [hget, if_pos ⟨rfl, rfl⟩] at he; exact (Option.some.inj he).symm)
    (fun _ => by rw [hget, if_pos ⟨rfl, rfl⟩]) (fun s' j' e _ he hne => by rw [hget, if_neg hne]; exact he) hob (hv.imp id fun ⟨a, b, c⟩ => ⟨a, b, fun _ => c⟩) others hF hF' hx (fun hl b hb => ?_)
  obtain ⟨k1, k2, k3, k4, k5⟩ := hown hl b hb
  exact ⟨k1, k2, k3, k4, h.nobody hob k5⟩
theorem SR.turnB {F' : Nat → Prop} {w' : World} {s j v v' : Nat} {o o' : Ob} {l' : LV} (h : SR base S B w0 objs loc F w) (st : Step base S w0 B F w w') (hs : s ≠ SHG)
    (hob : (look objs s).os[j]? = some (v, o)) (hv : v < v' ∨ (v = v' ∧ Compat (loc s j) l' o o'))
    (others : ∀ b, (live o = true → b ∉ (loc s j).all) → b < w.heap.size → w'.heap[b]? = w.heap[b]?)
    (hF : ∀ b, F b → F' b) (hF' : ∀ b, F' b → F b ∨ (live o = true ∧ b ∈ (loc s j).all)) {objs' : Upd} (hobjs : objs' = put (put objs s ⟨(look objs s).g, (look objs s).os.set j (v', o')⟩) SHG ⟨(look objs SHG).g + 1, []⟩)
    (hx : Ext B objs loc F w objs' (loc.set s j l') F' w' → ObOk objs' (loc.set s j l') F' B w' l' o')
    (hown : live o' = true → ∀ b ∈ l'.all, ¬ F' b ∧ ¬ B b ∧ b < w'.heap.size ∧ (base ≤ b ∨ b ∈ S) ∧ (∀ s1 j1 v1 o1, (look objs s1).os[j1]? = some (v1, o1) → live o1 = true → b ∈ (loc s1 j1).all → s1 = s ∧ j1 = j)) :
    SR base S B w0 objs' (loc.set s j l') F' w' ∧ Ext B objs loc F w objs' (loc.set s j l') F' w' := by
  have hj : j < (look objs s).os.length := (List.getElem?_eq_some_iff.1 hob).1
  obtain ⟨hgen, hget⟩ := put_facts (objs := objs) (s := s) (e0 := (v', o')) hj
  have hl : ∀ s', look objs' s' = if SHG = s' then ⟨(look objs SHG).g + 1, []⟩ else look (put objs s ⟨(look objs s).g, (look objs s).os.set j (v', o')⟩) s' := fun s' => by rw [hobjs]; exact look_put _ _ _ _
  have hG : (look objs' SHG).g = (look objs SHG).g + 1 := by rw [hl, if_pos rfl]
  refine h.turnG st (fun s' => ?_) (fun s' j' e he hne => ?_) (fun e he => ?_) (fun _ => ?_) (fun s' j' e hg he hne => ?_) hob (hv.imp id fun ⟨a, b⟩ => ⟨a, b, fun hh => by omega⟩) others hF hF' hx hown
  · rw [hl]
    split
    · rename_i e; subst e; exact Nat.le_succ _
    · rw [hgen]; exact Nat.le_refl _
  · rw [hl] at he
    split at he
    · simp at he
    · rw [hget, if_neg hne] at he; exact he
  · rw [hl, if_neg (fun e => hs e.symm), hget, if_pos ⟨rfl, rfl⟩] at he
    exact (Option.some.inj he).symm
  · rw [hl, if_neg (fun e => hs e.symm), hget, if_pos ⟨rfl, rfl⟩]
  · rw [hl] at hg ⊢
    split at hg
    · rename_i e; subst e; simp at hg
    · rename_i e; rw [if_neg e, hget, if_neg hne]; exact he
end
end Go.Eng
end

section
namespace Go.Eng
variable [Names]
section
variable {base : Nat} {S : List Nat} {B F : Nat → Prop} {w0 : World} {objs : Upd} {loc : Loc} {w : World}
def Loc.slot (loc : Loc) (d : Nat) (ls : Nat → LV) : Loc := fun s j => if s = d then ls j else loc s j
omit [Names] in
theorem Loc.slot_same (loc : Loc) (d : Nat) (ls : Nat → LV) (j : Nat) : loc.slot d ls d j = ls j := by simp [Loc.slot]
omit [Names] in
theorem Loc.slot_ne (loc : Loc) (d : Nat) (ls : Nat → LV) {s : Nat} (j : Nat) (h : s ≠ d) : loc.slot d ls s j = loc s j := by simp [Loc.slot, h]
theorem SR.freshG {w' : World} {d g : Nat} {os : List (Nat × Ob)} {ls : Nat → LV} (h : SR base S B w0 objs loc F w) (st : Step base S w0 B F w w')
    (hg : (look objs d).g < g) (olds : ∀ b, b < w.heap.size → w'.heap[b]? = w.heap[b]?)
    (hx : Ext B objs loc F w (put objs d ⟨g, os⟩) (loc.slot d ls) F w' → ∀ j v o, os[j]? = some (v, o) → ObOk (put objs d ⟨g, os⟩) (loc.slot d ls) F B w' (ls j) o)
    (hown : ∀ j v o b, os[j]? = some (v, o) → live o = true → b ∈ (ls j).all → ¬ F b ∧ ¬ B b ∧ b < w'.heap.size ∧ (base ≤ b ∨ b ∈ S) ∧ ∀ s1 j1 v1 o1, s1 ≠ d → (look objs s1).os[j1]? = some (v1, o1) → live o1 = true → b ∉ (loc s1 j1).all)
    (happ : ∀ j v o j' v' o' b, os[j]? = some (v, o) → os[j']? = some (v', o') → live o = true → live o' = true → b ∈ (ls j).all → b ∈ (ls j').all → j = j') :
    SR base S B w0 (put objs d ⟨g, os⟩) (loc.slot d ls) F w' ∧ Ext B objs loc F w (put objs d ⟨g, os⟩) (loc.slot d ls) F w' := by
  have hlook : ∀ s, look (put objs d ⟨g, os⟩) s = if d = s then ⟨g, os⟩ else look objs s := look_put _ _ _
  have ext : Ext B objs loc F w (put objs d ⟨g, os⟩) (loc.slot d ls) F w' := by
    refine ⟨fun _ hb => hb, st.sameF, st.sameB, st.size, fun s => ?_, fun s j v o hgg ho => ?_, fun _ s j v o o' hgg ho ho' hl' => ?_⟩
    · rw [hlook]; split
      · rename_i e; subst e; exact Nat.le_of_lt hg
      · exact Nat.le_refl _
    · rw [hlook] at hgg
      by_cases e : d = s
      · subst e; rw [if_pos rfl] at hgg; simp only at hgg; omega
      · refine ⟨v, o, by rw [hlook, if_neg e]; exact ho, Nat.le_refl _, fun _ => ?_⟩
        rw [Loc.slot_ne _ _ _ _ (fun h => e h.symm)]
        exact Compat.refl _ _
    · cases hl : live o with
      | false => cases o <;> simp [live] at hl; trivial
      | true => exact OKept.of_block fun b hb => olds b (h.own s j v o b ho hl (LV.mem_blk hb)).2.2.1
  refine ⟨h.frame st ?_ ?_ ?_ (fun b hb => Nat.lt_of_lt_of_le (h.fro b hb) st.size), ext⟩
  · intro s j v o ho
    rw [hlook] at ho
    by_cases e : d = s
    · subst e
      rw [if_pos rfl] at ho
      rw [Loc.slot_same]
      exact hx ext j v o ho
    · rw [if_neg e] at ho
      rw [Loc.slot_ne _ _ _ _ (fun h => e h.symm)]
      cases hl : live o with
      | false => cases o <;> simp [live] at hl; trivial
      | true => exact (h.obs s j v o ho).ext ext fun b hb => olds b (h.own s j v o b ho hl hb).2.2.1
  · intro s1 j1 v1 o1 s2 j2 v2 o2 b h1 h2 l1 l2 b1 b2
    rw [hlook] at h1 h2
    by_cases e1 : d = s1
    · subst e1
      rw [if_pos rfl] at h1
      rw [Loc.slot_same] at b1
      by_cases e2 : d = s2
      · subst e2
        rw [if_pos rfl] at h2
        rw [Loc.slot_same] at b2
        exact ⟨rfl, happ j1 v1 o1 j2 v2 o2 b h1 h2 l1 l2 b1 b2⟩
      · rw [if_neg e2] at h2
        rw [Loc.slot_ne _ _ _ _ (fun h => e2 h.symm)] at b2
        exact absurd b2 ((hown j1 v1 o1 b h1 l1 b1).2.2.2.2 s2 j2 v2 o2 (fun h => e2 h.symm) h2 l2)
    · rw [if_neg e1] at h1
      rw [Loc.slot_ne _ _ _ _ (fun h => e1 h.symm)] at b1
      by_cases e2 : d = s2
      · subst e2
        rw [if_pos rfl] at h2
        rw [Loc.slot_same] at b2
        exact absurd b1 ((hown j2 v2 o2 b h2 l2 b2).2.2.2.2 s1 j1 v1 o1 (fun h => e1 h.symm) h1 l1)
      · rw [if_neg e2] at h2
        rw [Loc.slot_ne _ _ _ _ (fun h => e2 h.symm)] at b2
        exact h.apart _ _ _ _ _ _ _ _ b h1 h2 l1 l2 b1 b2
  · intro s j v o b ho hl hb
    rw [hlook] at ho
    by_cases e : d = s
    · subst e
      rw [if_pos rfl] at ho
      rw [Loc.slot_same] at hb
      obtain ⟨k1, k2, k3, k4, _⟩ := hown j v o b ho hl hb
      exact ⟨k1, k2, k3, k4⟩
    · rw [if_neg e] at ho
      rw [Loc.slot_ne _ _ _ _ (fun h => e h.symm)] at hb
      obtain ⟨k1, k2, k3, k4⟩ := h.own s j v o b ho hl hb
      exact ⟨k1, k2, Nat.lt_of_lt_of_le k3 st.size, k4⟩
theorem SR.newBlk {w' : World} {b : Nat} (h : SR base S B w0 objs loc F w) (hb : w.heap.size ≤ b) (hb' : b < w'.heap.size) : ¬ F b ∧ ¬ B b ∧ b < w'.heap.size ∧ (base ≤ b ∨ b ∈ S) ∧ ∀ s1 j1 v1 o1, (look objs s1).os[j1]? = some (v1, o1) → live o1 = true → b ∉ (loc s1 j1).all := by
  refine ⟨fun hf => ?_, fun hB => ?_, hb', .inl ?_, fun s1 j1 v1 o1 h1 l1 b1 => ?_⟩
  · have := h.fro b hf; omega
  · have := (h.bor b hB).1
    have := h.size.2
    omega
  · have := h.size.2; omega
  · have := (h.own s1 j1 v1 o1 b h1 l1 b1).2.2.1; omega
theorem SR.fresh {w' : World} {d g : Nat} {os : List (Nat × Ob)} {ls : Nat → LV} (h : SR base S B w0 objs loc F w) (st : Step base S w0 B F w w')
    (hg : (look objs d).g < g) (olds : ∀ b, b < w.heap.size → w'.heap[b]? = w.heap[b]?)
    (hx : Ext B objs loc F w (put objs d ⟨g, os⟩) (loc.slot d ls) F w' → ∀ j v o, os[j]? = some (v, o) → ObOk (put objs d ⟨g, os⟩) (loc.slot d ls) F B w' (ls j) o)
    (hown : ∀ j v o b, os[j]? = some (v, o) → live o = true → b ∈ (ls j).all → w.heap.size ≤ b ∧ b < w'.heap.size)
    (happ : ∀ j v o j' v' o' b, os[j]? = some (v, o) → os[j']? = some (v', o') → live o = true → live o' = true → b ∈ (ls j).all → b ∈ (ls j').all → j = j') :
    SR base S B w0 (put objs d ⟨g, os⟩) (loc.slot d ls) F w' ∧ Ext B objs loc F w (put objs d ⟨g, os⟩) (loc.slot d ls) F w' :=
  h.freshG st hg olds hx (fun j v o b hj hl hb => by
    obtain ⟨k1, k2⟩ := hown j v o b hj hl hb
    obtain ⟨a1, a2, a3, a4, a5⟩ := h.newBlk k1 k2
    exact ⟨a1, a2, a3, a4, fun s1 j1 v1 o1 _ => a5 s1 j1 v1 o1⟩) happ
theorem Step.refl (_h : SR base S B w0 objs loc F w) : Step base S w0 B F w w := ⟨fun _ _ => rfl, fun _ _ => rfl, rfl, rfl, rfl, Nat.le_refl _, fun _ _ _ => rfl⟩
theorem Step.of_olds {w' : World} (h : SR base S B w0 objs loc F w) (olds : ∀ b, b < w.heap.size → w'.heap[b]? = w.heap[b]?) (os : w'.os = w.os) (tape : w'.tape = w.tape) (output : w'.output = w.output)
    (size : w.heap.size ≤ w'.heap.size) : Step base S w0 B F w w' :=
  ⟨fun b hb => olds b (h.fro b hb), fun b hb => olds b (Nat.lt_of_lt_of_le (h.bor b hb).1 h.size.2), os, tape, output, size, fun b hb _ => olds b (Nat.lt_of_lt_of_le hb h.size.2)⟩
theorem Step.of_one {w' : World} (h : SR base S B w0 objs loc F w) {s j v : Nat} {o : Ob} {b0 : Nat} (ho : (look objs s).os[j]? = some (v, o)) (hl : live o = true) (hb0 : b0 ∈ (loc s j).all)
    (olds : ∀ b, b < w.heap.size → b ≠ b0 → w'.heap[b]? = w.heap[b]?) (os : w'.os = w.os) (tape : w'.tape = w.tape) (output : w'.output = w.output)
    (size : w.heap.size ≤ w'.heap.size) : Step base S w0 B F w w' := by
  obtain ⟨k1, k2, k3, k4⟩ := h.own s j v o b0 ho hl hb0
  refine ⟨fun b hb => olds b (h.fro b hb) (fun e => k1 (e ▸ hb)), fun b hb => olds b (Nat.lt_of_lt_of_le (h.bor b hb).1 h.size.2) (fun e => k2 (e ▸ hb)), os, tape, output, size, fun b hb hS => olds b (Nat.lt_of_lt_of_le hb h.size.2) (fun e => ?_)⟩
  subst e
  rcases k4 with k4 | k4
  · omega
  · exact hS k4
omit [Names] in
theorem alloc_old (w : World) (o : Obj) (b : Nat) (hb : b < w.heap.size) : (w.alloc o).heap[b]? = w.heap[b]? := by
  show (w.heap.push o)[b]? = _
  rw [Array.getElem?_push, if_neg (by omega)]
omit [Names] in
theorem alloc_new (w : World) (o : Obj) : (w.alloc o).heap[w.heap.size]? = some o := by
  show (w.heap.push o)[w.heap.size]? = _
  simp
omit [Names] in
theorem alloc_size (w : World) (o : Obj) : (w.alloc o).heap.size = w.heap.size + 1 := by
  show (w.heap.push o).size = _
  simp
theorem SR.allocG {d cap : Nat} {o : Ob} {ob : Obj} {w1 : World} {sub : List Nat} (h : SR base S B w0 objs loc F w) (hw1 : w1.heap = w.heap.push ob) (hos : w1.os = w.os) (htape : w1.tape = w.tape) (hout : w1.output = w.output)
    (hsub : ∀ b ∈ sub, ¬ F b ∧ ¬ B b ∧ b < w.heap.size ∧ (base ≤ b ∨ b ∈ S) ∧ ∀ s1 j1 v1 o1, (look objs s1).os[j1]? = some (v1, o1) → live o1 = true → b ∉ (loc s1 j1).all)
    (hx : Ext B objs loc F w (put objs d ⟨(look objs d).g + 1, [(0, o)]⟩) (loc.slot d fun _ => ⟨some w.heap.size, 0, cap, sub⟩) F w1 →
      ObOk (put objs d ⟨(look objs d).g + 1, [(0, o)]⟩) (loc.slot d fun _ => ⟨some w.heap.size, 0, cap, sub⟩) F B w1 ⟨some w.heap.size, 0, cap, sub⟩ o) :
    SR base S B w0 (put objs d ⟨(look objs d).g + 1, [(0, o)]⟩) (loc.slot d fun _ => ⟨some w.heap.size, 0, cap, sub⟩) F w1 ∧
    Ext B objs loc F w (put objs d ⟨(look objs d).g + 1, [(0, o)]⟩) (loc.slot d fun _ => ⟨some w.heap.size, 0, cap, sub⟩) F w1 := by
  have olds : ∀ b, b < w.heap.size → w1.heap[b]? = w.heap[b]? := fun b hb => by rw [hw1, Array.getElem?_push, if_neg (by omega)]
  have sz : w1.heap.size = w.heap.size + 1 := by rw [hw1]; simp
  refine h.freshG (Step.of_olds h olds hos htape hout (by omega)) (by omega) olds (fun e j v o' hj => ?_) (fun j v o' b hj _ hb => ?_) (fun j v o' j' v' o'' b hj hj' _ _ _ _ => ?_)
  · cases j with
    | zero => simp only [List.getElem?_cons_zero, Option.some.injEq, Prod.mk.injEq] at hj; obtain ⟨rfl, rfl⟩ := hj; exact hx e
    | succ j => simp at hj
  · rcases LV.mem_all.1 hb with hb | hb
    · simp only [Option.some.injEq] at hb
      obtain ⟨a1, a2, a3, a4, a5⟩ := h.newBlk (w' := w1) (b := b) (by omega) (by omega)
      exact ⟨a1, a2, a3, a4, fun s1 j1 v1 o1 _ => a5 s1 j1 v1 o1⟩
    · obtain ⟨a1, a2, a3, a4, a5⟩ := hsub b hb
      exact ⟨a1, a2, by omega, a4, fun s1 j1 v1 o1 _ => a5 s1 j1 v1 o1⟩
  · cases j with
    | zero => cases j' with
      | zero => rfl
      | succ j' => simp at hj'
    | succ j => simp at hj
theorem SR.alloc1 {d cap : Nat} {o : Ob} {ob : Obj} {w1 : World} (h : SR base S B w0 objs loc F w) (hw1 : w1.heap = w.heap.push ob) (hos : w1.os = w.os) (htape : w1.tape = w.tape) (hout : w1.output = w.output)
    (hx : Ext B objs loc F w (put objs d ⟨(look objs d).g + 1, [(0, o)]⟩) (loc.slot d fun _ => ⟨some w.heap.size, 0, cap, []⟩) F w1 →
      ObOk (put objs d ⟨(look objs d).g + 1, [(0, o)]⟩) (loc.slot d fun _ => ⟨some w.heap.size, 0, cap, []⟩) F B w1 ⟨some w.heap.size, 0, cap, []⟩ o) :
    SR base S B w0 (put objs d ⟨(look objs d).g + 1, [(0, o)]⟩) (loc.slot d fun _ => ⟨some w.heap.size, 0, cap, []⟩) F w1 ∧
    Ext B objs loc F w (put objs d ⟨(look objs d).g + 1, [(0, o)]⟩) (loc.slot d fun _ => ⟨some w.heap.size, 0, cap, []⟩) F w1 :=
  h.allocG hw1 hos htape hout (by simp) hx
def More (base : Nat) (S : List Nat) (F F' : Nat → Prop) : Prop := ∀ b, F' b → F b ∨ base ≤ b ∨ b ∈ S
omit [Names] in
theorem More.refl (base : Nat) (S : List Nat) (F : Nat → Prop) : More base S F F := fun _ h => .inl h
omit [Names] in
theorem More.trans {F F' F'' : Nat → Prop} (h : More base S F F') (k : More base S F' F'') : More base S F F'' := fun b hb => (k b hb).elim (h b) .inr
theorem SR.kill {r : Ref} {z : Bool} {e : Nat} {t : Ty} {xs : List t.den} (h : SR base S B w0 objs loc F w) (ho : Get.ob (look objs) r = .lst z e t xs) :
    let F' : Nat → Prop := fun b => F b ∨ b ∈ (loc r.s r.j).all
    let objs' := put objs r.s ⟨r.g, setNth (look objs r.s).os r.j (r.v + 1, .gone)⟩
    SR base S B w0 objs' loc F' w ∧ Ext B objs loc F w objs' loc F' w ∧ More base S F F' := by
  intro F' objs'
  obtain ⟨hg, hj⟩ := ob_some ho (by simp)
  have hset : objs' = put objs r.s ⟨(look objs r.s).g, (look objs r.s).os.set r.j (r.v + 1, .gone)⟩ := by
    show put _ _ _ = _
    rw [setNth_eq, hg]
  have hloc : loc.set r.s r.j (loc r.s r.j) = loc := by
    funext s j
    by_cases e : s = r.s ∧ j = r.j
    · rw [e.1, e.2, Loc.set_same]
    · rw [Loc.set_ne _ _ _ _ e]
  have key := h.turn (F' := F') (w' := w) (l' := loc r.s r.j) (v' := r.v + 1) (o' := .gone) (Step.refl h) hj (.inl (by omega)) (fun _ _ _ => rfl) (fun b hb => .inl hb)
    (fun b hb => hb.imp id fun hb => ⟨rfl, hb⟩) (fun _ => trivial) (fun hl => by simp [live] at hl)
  rw [hloc, ← hset] at key
  refine ⟨key.1, key.2, fun b hb => ?_⟩
  rcases hb with hb | hb
  · exact .inl hb
  · exact .inr (h.own r.s r.j r.v _ b hj rfl hb).2.2.2
theorem SR.letgo {r : Ref} {z : Bool} {e : Nat} {t : Ty} {xs : List t.den} (h : SR base S B w0 objs loc F w) (ho : Get.ob (look objs) r = .lst z e t xs) :
    let objs' := put objs r.s ⟨r.g, setNth (look objs r.s).os r.j (r.v + 1, .gone)⟩
    SR base S B w0 objs' loc F w ∧ Ext B objs loc F w objs' loc F w := by
  intro objs'
  obtain ⟨hg, hj⟩ := ob_some ho (by simp)
  have hset : objs' = put objs r.s ⟨(look objs r.s).g, (look objs r.s).os.set r.j (r.v + 1, .gone)⟩ := by
    show put _ _ _ = _
    rw [setNth_eq, hg]
  have hloc : loc.set r.s r.j (loc r.s r.j) = loc := by
    funext s j
    by_cases e : s = r.s ∧ j = r.j
    · rw [e.1, e.2, Loc.set_same]
    · rw [Loc.set_ne _ _ _ _ e]
  have key := h.turn (F' := F) (w' := w) (l' := loc r.s r.j) (v' := r.v + 1) (o' := .gone) (Step.refl h) hj (.inl (by omega)) (fun _ _ _ => rfl) (fun b hb => hb)
    (fun b hb => .inl hb) (fun _ => trivial) (fun hl => by simp [live] at hl)
  rw [hloc, ← hset] at key
  exact key
end
end Go.Eng
end

section
namespace Go.Eng
variable [Names]
section
variable {base : Nat} {S : List Nat} {B F : Nat → Prop} {w0 : World} {objs : Upd} {loc : Loc} {w : World} {ρ : Type}
omit [Names] in
theorem cell_heap {w : World} {b o : Nat} {vs : Array Value} {e : TypeId} {fr : Nat × Nat} (h : w.heap[b]? = some (.cells vs e fr)) : w.cell? ⟨b, o, none⟩ = vs[o]? := by
  simp [World.cell?, h]
theorem Leafs.len : ∀ {as : List AV} {vs : List Value}, Leafs objs loc F B w as vs → as.length = vs.length
  | [], [], _ => rfl
  | _ :: _, _ :: _, h => by simp [h.2.2.len]
  | [], _ :: _, h => h.elim
  | _ :: _, [], h => h.elim
theorem Leafs.one : ∀ {as : List AV} {vs : List Value}, Leafs objs loc F B w as vs → ∀ v ∈ vs, v.oneCell' = true
  | [], [], _, v, hv => by cases hv
  | _ :: _, _ :: _, h, v, hv => by
    rcases List.mem_cons.1 hv with rfl | hv
    · exact h.1
    · exact h.2.2.one v hv
  | [], _ :: _, h, _, _ => h.elim
  | _ :: _, [], h, _, _ => h.elim
theorem Leafs.app : ∀ {as bs : List AV} {vs us : List Value}, Leafs objs loc F B w as vs → Leafs objs loc F B w bs us → Leafs objs loc F B w (as ++ bs) (vs ++ us)
  | [], _, [], _, _, h => h
  | _ :: _, _, _ :: _, _, h, k => ⟨h.1, h.2.1, h.2.2.app k⟩
  | [], _, _ :: _, _, h, _ => h.elim
  | _ :: _, _, [], _, h, _ => h.elim
theorem Leafs.take : ∀ {as : List AV} {vs : List Value} (n : Nat), Leafs objs loc F B w as vs → Leafs objs loc F B w (as.take n) (vs.take n)
  | _, _, 0, _ => by simp [Leafs]
  | [], [], n + 1, _ => by simp [Leafs]
  | _ :: _, _ :: _, n + 1, h => ⟨h.1, h.2.1, h.2.2.take n⟩
  | [], _ :: _, _ + 1, h => h.elim
  | _ :: _, [], _ + 1, h => h.elim
theorem Leafs.drop : ∀ {as : List AV} {vs : List Value} (n : Nat), Leafs objs loc F B w as vs → Leafs objs loc F B w (as.drop n) (vs.drop n)
  | _, _, 0, h => h
  | [], [], n + 1, _ => by simp [Leafs]
  | _ :: _, _ :: _, n + 1, h => h.2.2.drop n
  | [], _ :: _, _ + 1, h => h.elim
  | _ :: _, [], _ + 1, h => h.elim
theorem Leafs.set : ∀ {as : List AV} {vs : List Value} {a : AV} {v : Value} (n : Nat), Leafs objs loc F B w as vs → v.oneCell' = true → Leaf objs loc F B w a v → Leafs objs loc F B w (as.set n a) (vs.set n v)
  | [], [], _, _, n, _, _, _ => by simp [Leafs]
  | _ :: _, _ :: _, _, _, 0, h, h1, k => ⟨h1, k, h.2.2⟩
  | _ :: _, _ :: _, _, _, n + 1, h, h1, k => ⟨h.1, h.2.1, h.2.2.set n h1 k⟩
  | [], _ :: _, _, _, _, h, _, _ => h.elim
  | _ :: _, [], _, _, _, h, _, _ => h.elim
theorem Leafs.get : ∀ {as : List AV} {vs : List Value} {n : Nat} {a : AV}, Leafs objs loc F B w as vs → as[n]? = some a → ∃ v, vs[n]? = some v ∧ v.oneCell' = true ∧ Leaf objs loc F B w a v
  | [], [], n, _, _, h => by simp at h
  | a :: _, v :: _, 0, _, h, k => by simp at k; subst k; exact ⟨v, rfl, h.1, h.2.1⟩
  | _ :: _, _ :: _, n + 1, _, h, k => by simpa using h.2.2.get (n := n) (by simpa using k)
  | [], _ :: _, _, _, h, _ => h.elim
  | _ :: _, [], _, _, h, _ => h.elim
theorem Leaf.one : ∀ {a : AV} {v : Value}, Leaf objs loc F B w a v → a ≠ .dead → v.oneCell' = true
  | .dead, _, _, h => absurd rfl h
  | .int _ _, _, h, _ => by cases h; rfl
  | .bool _, _, h, _ => by cases h; rfl
  | .str _, _, h, _ => by cases h; rfl
  | .nils, _, h, _ => by cases h; rfl
  | .nilp, _, h, _ => by cases h; rfl
  | .il b t xs, v, h, _ => by obtain ⟨a, n, c, e, _⟩ := h; cases e; rfl
  | .ol _ _, _, h, _ => h.1
  | .ptr _ _, _, h, _ => h.1
  | .ep _ _ _, _, h, _ => h.1
  | .ip b t xs i off, v, h, _ => by obtain ⟨_, _, _, _, rfl, _⟩ := h; rfl
  | .fn _ _, _, h, _ => by obtain ⟨_, rfl⟩ := h; rfl
  | .nm n, _, h, _ => by cases h; exact Names.one n
  | .nl _ _ _ _, _, h, _ => h.1
  | .np _ _ _ _ _ _, _, h, _ => h.1
  | .agg _, _, h, _ => h.elim
  | .tup _, _, h, _ => h.elim
theorem rowCells_ok {bo : Bool} : ∀ {t : Ty} {x : t.den} {cs : List Value}, IRep (fun x => F x ∨ (bo = true ∧ B x)) w t x cs → Leafs objs loc F B w (rowCells bo t x) cs
  | .int _, _, _, h => by cases h; exact ⟨rfl, rfl, trivial⟩
  | .bool, _, _, h => by cases h; exact ⟨rfl, rfl, trivial⟩
  | .str, _, _, h => by cases h; exact ⟨rfl, rfl, trivial⟩
  | .list t, xs, cs, h => by
    have h' := h
    obtain ⟨a, n, c, rfl, h1⟩ := h
    exact ⟨rfl, h', trivial⟩
  | .unit, _, _, h => by cases h; trivial
  | .pair a b, x, _, h => by
    obtain ⟨c, d, rfl, h1, h2⟩ := h
    exact (rowCells_ok h1).app (rowCells_ok h2)
  | .nm, n, _, h => by cases h; exact ⟨Names.one n, rfl, trivial⟩
  | .ols _ _, _, _, h => h.elim
  | .olq _ _, _, _, h => h.elim
theorem IRep.left {bo : Bool} {t : Ty} {x : t.den} {cs : List Value} (h : IRep F w t x cs) : IRep (fun x => F x ∨ (bo = true ∧ B x)) w t x cs := h.mono (fun _ hb => .inl hb) (fun _ _ => rfl)
theorem IRep.noB {t : Ty} {x : t.den} {cs : List Value} (h : IRep (fun x => F x ∨ (false = true ∧ B x)) w t x cs) : IRep F w t x cs :=
  h.mono (fun b hb => hb.elim id fun hb => absurd hb.1 (by simp)) (fun _ _ => rfl)
theorem IRep.flat {F' : Nat → Prop} : ∀ {t : Ty} {x : t.den} {cs : List Value}, t.flat = true → IRep F w t x cs → IRep F' w t x cs
  | .int _, _, _, _, h => h
  | .bool, _, _, _, h => h
  | .str, _, _, _, h => h
  | .list _, _, _, hf, _ => by simp [Ty.flat] at hf
  | .unit, _, _, _, h => h
  | .pair a b, _, _, hf, h => by
    simp only [Ty.flat, Bool.and_eq_true] at hf
    obtain ⟨c, d, rfl, h1, h2⟩ := h
    exact ⟨c, d, rfl, h1.flat hf.1, h2.flat hf.2⟩
  | .nm, _, _, _, h => h
  | .ols _ _, _, _, hf, _ => by simp [Ty.flat] at hf
  | .olq _ _, _, _, hf, _ => by simp [Ty.flat] at hf
omit [Names] in
theorem rowCells_len (bo : Bool) : ∀ (t : Ty) (x : t.den), (rowCells bo t x).length = t.w
  | .int _, _ => rfl
  | .bool, _ => rfl
  | .str, _ => rfl
  | .list _, _ => rfl
  | .unit, _ => rfl
  | .pair a b, x => by simp [rowCells, Ty.w, rowCells_len bo a, rowCells_len bo b]
  | .nm, _ => rfl
  | .ols _ _, _ => rfl
  | .olq _ _, _ => rfl
def FK (F : Nat → Prop) (loc : Loc) (ks : List Ref) : Nat → Prop := fun b => F b ∨ ∃ r ∈ ks, b ∈ (loc r.s r.j).all
omit [Names] in
theorem FK.nil : FK F loc [] = F := by funext b; simp [FK]
omit [Names] in
theorem FK.left {ks ks' : List Ref} : ∀ b, FK F loc ks b → FK F loc (ks ++ ks') b := fun _ h => h.imp id fun ⟨r, hr, e⟩ => ⟨r, List.mem_append_left _ hr, e⟩
omit [Names] in
theorem FK.right {ks ks' : List Ref} : ∀ b, FK F loc ks' b → FK F loc (ks ++ ks') b := fun _ h => h.imp id fun ⟨r, hr, e⟩ => ⟨r, List.mem_append_right _ hr, e⟩
def blks (loc : Loc) (rs : List Ref) : List Nat := rs.flatMap fun r => (loc r.s r.j).all
omit [Names] in
theorem blks_append (loc : Loc) (a b : List Ref) : blks loc (a ++ b) = blks loc a ++ blks loc b := by simp [blks]
omit [Names] in
theorem Ty.flat_hasO : ∀ {t : Ty}, t.flat = true → t.hasO = false
  | .int _, _ => rfl
  | .bool, _ => rfl
  | .str, _ => rfl
  | .unit, _ => rfl
  | .nm, _ => rfl
  | .list _, h => by simp [Ty.flat] at h
  | .ols _ _, h => by simp [Ty.flat] at h
  | .olq _ _, h => by simp [Ty.flat] at h
  | .pair a b, h => by
    simp only [Ty.flat, Bool.and_eq_true] at h
    simp [Ty.hasO, Ty.flat_hasO h.1, Ty.flat_hasO h.2]
def isLst : Ob → Bool
  | .lst _ _ _ _ => true
  | _ => false
theorem lst_view {r : Ref} {z : Bool} {e : Nat} {t : Ty} {xs : List t.den} {vw : View} {v : Value} (hto : t.hasO = false) (h : SR base S B w0 objs loc F w) (ho : Get.ob (look objs) r = .lst z e t xs)
    (hv : viewOk (loc r.s r.j) t.w xs.length vw v) : ∃ a n c, v = .slice a n c ∧ (view xs vw).length = n ∧ n ≤ c ∧ (0 < n → ∃ b o, a = some ⟨b, o, none⟩ ∧ (loc r.s r.j).blk = some b ∧ b < w.heap.size ∧ RowsAt (IRep F w t) w t.w b o (view xs vw)) := by
  obtain ⟨hg, hj⟩ := ob_some ho (by simp)
  have hok : LstOk F w (loc r.s r.j) z e t xs := h.obs r.s r.j r.v _ hj
  obtain ⟨_, hok⟩ := hok.old hto
  have rows : ∀ b vs fr, (loc r.s r.j).blk = some b → w.heap[b]? = some (.cells vs e fr) → RowsIn (IRep F w t) t.w (vs.toList.drop (loc r.s r.j).off) xs → ∀ lo, lo ≤ xs.length → ∀ ys, ys = (xs.drop lo).take ys.length → RowsAt (IRep F w t) w t.w b ((loc r.s r.j).off + lo * t.w) ys := by
    intro b vs fr hb hh hr lo hlo ys hys i hi
    have hl : ys.length ≤ xs.length - lo := by
      have := congrArg List.length hys
      rw [List.length_take, List.length_drop] at this
      omega
    have hx : lo + i < xs.length := by omega
    obtain ⟨rs, h1, h2, h3⟩ := hr (lo + i) hx
    have he : ys[i] = xs[lo + i] := by
      have h4 : ys[i]? = xs[lo + i]? := by
        rw [hys, List.getElem?_take, if_pos hi, List.getElem?_drop]
      rw [List.getElem?_eq_getElem hi, List.getElem?_eq_getElem hx] at h4
      exact Option.some.inj h4
    refine ⟨rs, h1, fun j v hj' => ?_, by rw [he]; exact h3⟩
    have hjw : j < t.w := by
      have := (List.getElem?_eq_some_iff.1 hj').1
      omega
    rw [cell_heap hh, ← hj', ← h2 j hjw, List.getElem?_drop, Array.getElem?_toList]
    congr 1
    rw [Nat.add_mul]
    omega
  cases hb : (loc r.s r.j).blk with
  | none =>
    rw [hb] at hok
    obtain ⟨rfl, hc⟩ := hok
    cases vw with
    | whole =>
      refine ⟨none, 0, 0, ?_, rfl, Nat.le_refl _, fun h => absurd h (by omega)⟩
      rw [hv]; simp [hdr, hb, hc]
    | sub lo hi =>
      obtain ⟨h0, h1, h2, h3, o, rfl, h4⟩ := hv
      refine ⟨_, _, _, rfl, ?_, ?_, fun hn => ?_⟩
      · simp only [view, List.length_drop, List.length_take, List.length_nil] at *; omega
      · simp only [List.length_nil] at h2; omega
      · simp only [List.length_nil] at h2; omega
  | some b =>
    rw [hb] at hok
    obtain ⟨vs, fr, hh, _, _, hcap, _, _, hr⟩ := hok
    have hlt := (h.own r.s r.j r.v _ b hj rfl (LV.mem_blk hb)).2.2.1
    cases vw with
    | whole =>
      refine ⟨some ⟨b, (loc r.s r.j).off, none⟩, xs.length, _, by rw [hv]; simp [hdr, hb], rfl, hcap, fun _ => ⟨b, (loc r.s r.j).off, rfl, rfl, hlt, ?_⟩⟩
      have := rows b vs fr hb hh hr 0 (by omega) xs (by simp)
      simpa [view] using this
    | sub lo hi =>
      obtain ⟨h0, h1, h2, h3, o, rfl, h4⟩ := hv
      have hl : (view xs (.sub lo hi)).length = (hi - lo).toNat := by
        simp only [view, List.length_drop, List.length_take]; omega
      refine ⟨_, _, _, rfl, hl, by omega, fun hn => ⟨b, (loc r.s r.j).off + lo.toNat * t.w, ?_, rfl, hlt, ?_⟩⟩
      · rw [h4 (by omega), hb]; rfl
      · refine rows b vs fr hb hh hr lo.toNat (by omega) _ ?_
        rw [hl]
        simp only [view]
        rw [List.drop_take]
        congr 1
        omega
theorem imm_ok {get : Get} (h : SR base S B w0 objs loc F w) : ∀ {t : Ty}, t.hasO = false → ∀ {v : AV} {cv : Value} {K : t.den → List Ref → Option ρ} {res : ρ}, imm get t v K = some res → Leaf objs loc F B w v cv →
    (∀ s ∈ AV.slots v, get s = look objs s) → ∃ x ks, K x ks = some res ∧ IRep (FK F loc ks) w t x [cv] ∧ ∀ r ∈ ks, isLst (Get.ob (look objs) r) = true ∧ get r.s = look objs r.s := by
  intro t hto v cv K res hk hl hget
  unfold imm at hk
  split at hk
  · split at hk
    · rename_i e; subst e
      exact ⟨_, [], hk, by cases hl; rfl, by simp⟩
    · cases hk
  · exact ⟨_, [], hk, by cases hl; rfl, by simp⟩
  · exact ⟨_, [], hk, by cases hl; rfl, by simp⟩
  · split at hk
    · rename_i e; subst e
      exact ⟨_, [], hk, hl.mono (fun b hb => hb.elim .inl fun hb => absurd hb.1 (by simp)) (fun _ _ => rfl), by simp⟩
    · cases hk
  · refine ⟨_, [], hk, ⟨none, 0, 0, by cases hl; rfl, rfl, Nat.le_refl _, fun h => absurd h (by omega)⟩, by simp⟩
  · rename_i r vw _
    have hob : Get.ob get r = Get.ob (look objs) r := by
      unfold Get.ob
      rw [hget r.s (by simp [AV.slots])]
    rw [hob] at hk
    split at hk
    · rename_i z e t' xs ho
      split at hk
      · rename_i et
        obtain ⟨et, hto'⟩ := et
        subst et
        have hv := RS.found hl.2 ho (by simp)
        obtain ⟨a, n, c, rfl, h1, h2, h3⟩ := lst_view hto' h ho hv
        refine ⟨_, [r], hk, ⟨a, n, c, rfl, h1, h2, fun hn => ?_⟩, by simp [ho, isLst, hget r.s (by simp [AV.slots])]⟩
        obtain ⟨b, o, rfl, hb, hlt, hr⟩ := h3 hn
        refine ⟨b, o, rfl, .inr ⟨r, by simp, LV.mem_blk hb⟩, hlt, fun i hi => ?_⟩
        obtain ⟨rs, k1, k2, k3⟩ := hr i hi
        exact ⟨rs, k1, k2, k3.mono (fun b hb => .inl hb) (fun _ _ => rfl)⟩
      · cases hk
    · cases hk
  · exact ⟨_, [], hk, by cases hl; rfl, by simp⟩
  · exact ⟨_, [], hk, by cases hl; exact congrArg (fun v => [v]) Names.zero.symm, by simp⟩
  · simp [Ty.hasO] at hto
  · simp [Ty.hasO] at hto
  · cases hk
omit [Names] in
theorem slots_go_append (cs ds : List AV) : AV.slots.go (cs ++ ds) = AV.slots.go cs ++ AV.slots.go ds := by
  induction cs with
  | nil => rfl
  | cons c cs ih => cases c <;> simp [AV.slots.go, ih]
omit [Names] in
theorem slots_head {v : AV} {cs : List AV} (hv : ∀ l, v ≠ .agg l) (hf : ∀ f l, v ≠ .fn f l) : ∀ s ∈ AV.slots v, s ∈ AV.slots.go (v :: cs) := by
  intro s hs
  cases v <;> simp_all [AV.slots, AV.slots.go] <;> (first | (rcases hs with hs | hs | hs <;> simp [hs]; done) | (rcases hs with hs | hs <;> simp [hs]; done))
omit [Names] in
theorem slots_tail {v : AV} {cs : List AV} : ∀ s ∈ AV.slots.go cs, s ∈ AV.slots.go (v :: cs) := by
  intro s hs
  cases v <;> simp_all [AV.slots.go]
omit [Names] in
theorem slots_take {cs : List AV} (n : Nat) : ∀ s ∈ AV.slots.go (cs.take n), s ∈ AV.slots.go cs := by
  intro s hs
  have := slots_go_append (cs.take n) (cs.drop n)
  rw [List.take_append_drop] at this
  rw [this]
  exact List.mem_append_left _ hs
omit [Names] in
theorem slots_drop {cs : List AV} (n : Nat) : ∀ s ∈ AV.slots.go (cs.drop n), s ∈ AV.slots.go cs := by
  intro s hs
  have := slots_go_append (cs.take n) (cs.drop n)
  rw [List.take_append_drop] at this
  rw [this]
  exact List.mem_append_right _ hs
theorem toRow_one {get : Get} (h : SR base S B w0 objs loc F w) {t : Ty} (hto : t.hasO = false) {v : AV} {cv : Value} {K : t.den → List Ref → Option ρ} {res : ρ} (hk : imm get t v K = some res)
    (hl : Leafs objs loc F B w [v] [cv]) (hget : ∀ s ∈ AV.slots.go [v], get s = look objs s) :
    ∃ x ks, K x ks = some res ∧ IRep (FK F loc ks) w t x [cv] ∧ ∀ r ∈ ks, isLst (Get.ob (look objs) r) = true ∧ get r.s = look objs r.s := by
  have h1 := hl.2.1
  refine imm_ok h hto hk h1 fun s hs => hget s (slots_head (fun l e => ?_) (fun f l e => ?_) s hs)
  · subst e; exact h1.elim
  · subst e; obtain ⟨rfl, _⟩ := h1; simp [AV.slots, AV.slots.go] at hs
theorem toRow_ok {get : Get} (h : SR base S B w0 objs loc F w) : ∀ {t : Ty}, t.hasO = false → ∀ {cs : List AV} {vs : List Value} {K : t.den → List Ref → Option ρ} {res : ρ}, toRow get t cs K = some res → Leafs objs loc F B w cs vs →
    (∀ s ∈ AV.slots.go cs, get s = look objs s) → ∃ x ks, K x ks = some res ∧ IRep (FK F loc ks) w t x vs ∧ ∀ r ∈ ks, isLst (Get.ob (look objs) r) = true ∧ get r.s = look objs r.s
  | .unit, _, [], [], K, res, hk, _, _ => ⟨(), [], hk, rfl, by simp⟩
  | .pair a b, hto, cs, vs, K, res, hk, hl, hget => by
    simp only [Ty.hasO, Bool.or_eq_false_iff] at hto
    unfold toRow at hk
    obtain ⟨x, ks, hk, h1, h2⟩ := toRow_ok h hto.1 hk (hl.take a.w) (fun s hs => hget s (slots_take _ s hs))
    obtain ⟨y, ks', hk, h3, h4⟩ := toRow_ok h hto.2 hk (hl.drop a.w) (fun s hs => hget s (slots_drop _ s hs))
    refine ⟨(x, y), ks ++ ks', hk, ⟨_, _, (List.take_append_drop a.w vs).symm, h1.mono FK.left (fun _ _ => rfl), h3.mono FK.right (fun _ _ => rfl)⟩, fun r hr => ?_⟩
    rcases List.mem_append.1 hr with hr | hr
    · exact h2 r hr
    · exact h4 r hr
  | .int k, _, [v], [cv], K, res, hk, hl, hget => toRow_one (t := .int k) h rfl hk hl hget
  | .bool, _, [v], [cv], K, res, hk, hl, hget => toRow_one (t := .bool) h rfl hk hl hget
  | .str, _, [v], [cv], K, res, hk, hl, hget => toRow_one (t := .str) h rfl hk hl hget
  | .list t, _, [v], [cv], K, res, hk, hl, hget => toRow_one (t := .list t) h rfl hk hl hget
  | .unit, _, _ :: _, _, _, _, hk, _, _ => by simp [toRow] at hk
  | .unit, _, [], _ :: _, _, _, _, hl, _ => hl.elim
  | .int _, _, [], _, _, _, hk, _, _ => by simp [toRow] at hk
  | .bool, _, [], _, _, _, hk, _, _ => by simp [toRow] at hk
  | .str, _, [], _, _, _, hk, _, _ => by simp [toRow] at hk
  | .list _, _, [], _, _, _, hk, _, _ => by simp [toRow] at hk
  | .int _, _, _ :: _ :: _, _, _, _, hk, _, _ => by simp [toRow] at hk
  | .bool, _, _ :: _ :: _, _, _, _, hk, _, _ => by simp [toRow] at hk
  | .str, _, _ :: _ :: _, _, _, _, hk, _, _ => by simp [toRow] at hk
  | .list _, _, _ :: _ :: _, _, _, _, hk, _, _ => by simp [toRow] at hk
  | .int _, _, [_], [], _, _, _, hl, _ => hl.elim
  | .bool, _, [_], [], _, _, _, hl, _ => hl.elim
  | .str, _, [_], [], _, _, _, hl, _ => hl.elim
  | .list _, _, [_], [], _, _, _, hl, _ => hl.elim
  | .int _, _, [_], _ :: _ :: _, _, _, _, hl, _ => hl.2.2.elim
  | .bool, _, [_], _ :: _ :: _, _, _, _, hl, _ => hl.2.2.elim
  | .str, _, [_], _ :: _ :: _, _, _, _, hl, _ => hl.2.2.elim
  | .list _, _, [_], _ :: _ :: _, _, _, _, hl, _ => hl.2.2.elim
  | .nm, _, [v], [cv], K, res, hk, hl, hget => toRow_one (t := .nm) h rfl hk hl hget
  | .nm, _, [], _, _, _, hk, _, _ => by simp [toRow] at hk
  | .nm, _, _ :: _ :: _, _, _, _, hk, _, _ => by simp [toRow] at hk
  | .nm, _, [_], [], _, _, _, hl, _ => hl.elim
  | .nm, _, [_], _ :: _ :: _, _, _, _, hl, _ => hl.2.2.elim
  | .ols _ _, hto, _, _, _, _, _, _, _ => by simp [Ty.hasO] at hto
  | .olq _ _, hto, _, _, _, _, _, _, _ => by simp [Ty.hasO] at hto
theorem immT_ok {get : Get} (h : SR base S B w0 objs loc F w) : ∀ {t : Ty}, t.hasL = false → ∀ {v : AV} {cv : Value} {K : t.den → List Ref → Option ρ} {res : ρ}, imm get t v K = some res → Leaf objs loc F B w v cv →
    (∀ s ∈ AV.slots v, get s = look objs s) → ∃ x ks, K x ks = some res ∧ TRep F w t x [cv] (blks loc ks) ∧ ∀ r ∈ ks, isLst (Get.ob (look objs) r) = true ∧ get r.s = look objs r.s := by
  intro t htl v cv K res hk hl hget
  unfold imm at hk
  split at hk
  · split at hk
    · rename_i e; subst e
      exact ⟨_, [], hk, ⟨by cases hl; rfl, rfl⟩, by simp⟩
    · cases hk
  · exact ⟨_, [], hk, ⟨by cases hl; rfl, rfl⟩, by simp⟩
  · exact ⟨_, [], hk, ⟨by cases hl; rfl, rfl⟩, by simp⟩
  · simp [Ty.hasL] at htl
  · simp [Ty.hasL] at htl
  · simp [Ty.hasL] at htl
  · exact ⟨_, [], hk, ⟨by cases hl; rfl, rfl⟩, by simp⟩
  · exact ⟨_, [], hk, ⟨by cases hl; exact congrArg (fun v => [v]) Names.zero.symm, rfl⟩, by simp⟩
  · refine ⟨_, [], hk, ⟨LV.nil, by cases hl; rfl, rfl, ?_⟩, by simp⟩
    exact ⟨rfl, rfl, rfl⟩
  · rename_i e t r K
    have hob : Get.ob get r = Get.ob (look objs) r := by
      unfold Get.ob
      rw [hget r.s (by simp [AV.slots])]
    rw [hob] at hk
    split at hk
    case h_2 => cases hk
    rename_i e' t' xs ho
    split at hk
    case isFalse => cases hk
    rename_i et; subst et
    split at hk
    case h_2 => cases hk
    rename_i he
    have he := beq_true.1 he
    subst he
    have hv := RS.found hl.2 ho (by simp)
    have hok : LstOk F w (loc r.s r.j) false e' t' xs := h.obs r.s r.j r.v _ (ob_some ho (by simp)).2
    refine ⟨_, [r], hk, ⟨loc r.s r.j, by rw [show cv = hdr (loc r.s r.j) xs.length from hv], by simp [blks], hok⟩, by simp [ho, isLst, hget r.s (by simp [AV.slots])]⟩
  · cases hk
theorem toRowT_one {get : Get} (h : SR base S B w0 objs loc F w) {t : Ty} (htl : t.hasL = false) {v : AV} {cv : Value} {K : t.den → List Ref → Option ρ} {res : ρ} (hk : imm get t v K = some res)
    (hl : Leafs objs loc F B w [v] [cv]) (hget : ∀ s ∈ AV.slots.go [v], get s = look objs s) :
    ∃ x ks, K x ks = some res ∧ TRep F w t x [cv] (blks loc ks) ∧ ∀ r ∈ ks, isLst (Get.ob (look objs) r) = true ∧ get r.s = look objs r.s := by
  have h1 := hl.2.1
  refine immT_ok h htl hk h1 fun s hs => hget s (slots_head (fun l e => ?_) (fun f l e => ?_) s hs)
  · subst e; exact h1.elim
  · subst e; obtain ⟨rfl, _⟩ := h1; simp [AV.slots, AV.slots.go] at hs
theorem toRowT_ok {get : Get} (h : SR base S B w0 objs loc F w) : ∀ {t : Ty}, t.hasL = false → ∀ {cs : List AV} {vs : List Value} {K : t.den → List Ref → Option ρ} {res : ρ}, toRow get t cs K = some res → Leafs objs loc F B w cs vs →
    (∀ s ∈ AV.slots.go cs, get s = look objs s) → ∃ x ks, K x ks = some res ∧ TRep F w t x vs (blks loc ks) ∧ ∀ r ∈ ks, isLst (Get.ob (look objs) r) = true ∧ get r.s = look objs r.s := by
  have single : ∀ {t : Ty}, t.hasL = false → (∀ (cs : List AV) (ρ : Type) (K : t.den → List Ref → Option ρ) (res : ρ), toRow get t cs K = some res → ∃ v, cs = [v] ∧ imm get t v K = some res) → ∀ {cs : List AV} {vs : List Value} {K : t.den → List Ref → Option ρ} {res : ρ}, toRow get t cs K = some res → Leafs objs loc F B w cs vs →
    (∀ s ∈ AV.slots.go cs, get s = look objs s) → ∃ x ks, K x ks = some res ∧ TRep F w t x vs (blks loc ks) ∧ ∀ r ∈ ks, isLst (Get.ob (look objs) r) = true ∧ get r.s = look objs r.s := by
    intro t htl hs cs vs K res hk hl hget
    obtain ⟨v, rfl, hk2⟩ := hs cs _ K res hk
    match vs, hl with
    | [cv], hl => exact toRowT_one h htl hk2 hl hget
    | [], hl => exact hl.elim
    | _ :: _ :: _, hl => exact hl.2.2.elim
  intro t
  induction t with
  | pair a b iha ihb =>
    intro htl cs vs K res hk hl hget
    simp only [Ty.hasL, Bool.or_eq_false_iff] at htl
    unfold toRow at hk
    obtain ⟨x, ks, hk, h1, h2⟩ := iha htl.1 hk (hl.take a.w) (fun s hs => hget s (slots_take _ s hs))
    obtain ⟨y, ks', hk, h3, h4⟩ := ihb htl.2 hk (hl.drop a.w) (fun s hs => hget s (slots_drop _ s hs))
    refine ⟨(x, y), ks ++ ks', hk, ⟨_, _, _, _, (List.take_append_drop a.w vs).symm, blks_append _ _ _, h1, h3⟩, fun r hr => ?_⟩
    rcases List.mem_append.1 hr with hr | hr
    · exact h2 r hr
    · exact h4 r hr
  | unit =>
    intro htl cs vs K res hk hl hget
    match cs, vs, hl with
    | [], [], _ => exact ⟨(), [], hk, ⟨rfl, rfl⟩, by simp⟩
    | [], _ :: _, hl => exact hl.elim
    | _ :: _, _, _ => simp [toRow] at hk
  | int k =>
    intro htl
    refine single htl fun cs ρ K res hk => ?_
    match cs with
    | [v] => exact ⟨v, rfl, hk⟩
    | [] => simp [toRow] at hk
    | _ :: _ :: _ => simp [toRow] at hk
  | bool =>
    intro htl
    refine single htl fun cs ρ K res hk => ?_
    match cs with
    | [v] => exact ⟨v, rfl, hk⟩
    | [] => simp [toRow] at hk
    | _ :: _ :: _ => simp [toRow] at hk
  | str =>
    intro htl
    refine single htl fun cs ρ K res hk => ?_
    match cs with
    | [v] => exact ⟨v, rfl, hk⟩
    | [] => simp [toRow] at hk
    | _ :: _ :: _ => simp [toRow] at hk
  | list t _ =>
    intro htl
    refine single htl fun cs ρ K res hk => ?_
    match cs with
    | [v] => exact ⟨v, rfl, hk⟩
    | [] => simp [toRow] at hk
    | _ :: _ :: _ => simp [toRow] at hk
  | nm =>
    intro htl
    refine single htl fun cs ρ K res hk => ?_
    match cs with
    | [v] => exact ⟨v, rfl, hk⟩
    | [] => simp [toRow] at hk
    | _ :: _ :: _ => simp [toRow] at hk
  | ols e t _ =>
    intro htl
    refine single htl fun cs ρ K res hk => ?_
    match cs with
    | [v] => exact ⟨v, rfl, hk⟩
    | [] => simp [toRow] at hk
    | _ :: _ :: _ => simp [toRow] at hk
  | olq e t _ =>
    intro htl cs vs K res hk hl hget
    simp [toRow] at hk
theorem TRep.len : ∀ {t : Ty} {x : t.den} {cs : List Value} {S : List Nat}, TRep F w t x cs S → cs.length = t.w
  | .int _, _, _, _, h => h.1.len
  | .bool, _, _, _, h => h.1.len
  | .str, _, _, _, h => h.1.len
  | .list _, _, _, _, h => h.1.len
  | .unit, _, _, _, h => h.1.len
  | .nm, _, _, _, h => h.1.len
  | .ols _ _, _, _, _, h => by obtain ⟨l, rfl, _⟩ := h; rfl
  | .olq _ _, some _, _, _, h => by obtain ⟨l, rfl, _⟩ := h; rfl
  | .olq _ _, none, _, _, h => by obtain ⟨⟨v, rfl, _⟩, _⟩ := h; rfl
  | .pair a b, _, _, _, h => by
    obtain ⟨c, d, S1, S2, rfl, rfl, h1, h2⟩ := h
    simp [Ty.w, h1.len, h2.len]
theorem TRep.one : ∀ {t : Ty} {x : t.den} {cs : List Value} {S : List Nat}, TRep F w t x cs S → ∀ v ∈ cs, v.oneCell' = true
  | .int _, _, _, _, h => h.1.one
  | .bool, _, _, _, h => h.1.one
  | .str, _, _, _, h => h.1.one
  | .list _, _, _, _, h => h.1.one
  | .unit, _, _, _, h => h.1.one
  | .nm, _, _, _, h => h.1.one
  | .ols _ _, _, _, _, h => by obtain ⟨l, rfl, _⟩ := h; simp [hdr, Value.oneCell']
  | .olq _ _, some _, _, _, h => by obtain ⟨l, rfl, _⟩ := h; simp [hdr, Value.oneCell']
  | .olq _ _, none, _, _, h => by obtain ⟨⟨v, rfl, hv⟩, _⟩ := h; simpa using hv
  | .pair a b, _, _, _, h => by
    obtain ⟨c, d, S1, S2, rfl, rfl, h1, h2⟩ := h
    intro v hv
    rcases List.mem_append.1 hv with hv | hv
    · exact h1.one v hv
    · exact h2.one v hv
end
end Go.Eng
end

section
namespace Go.Eng
variable [Names]
section
variable {base : Nat} {S : List Nat} {B F : Nat → Prop} {w0 : World} {objs : Upd} {loc : Loc} {w : World} {ρ : Type}
omit [Names] in
theorem upd_at {get : Get} {objs : Upd} {s : Nat} (h : get s = look objs s) : ∀ u : Upd, Upd.at get u s = look (applyUpd objs u) s
  | [] => h
  | (s', x) :: u => by
    show (match Nat.beq s' s with | true => x | false => Upd.at get u s) = look (put (applyUpd objs u) s' x) s
    rw [look_put]
    cases e : Nat.beq s' s with
    | true => rw [if_pos (beq_true.1 e)]
    | false => rw [if_neg (beq_false.1 e)]; exact upd_at h u
omit [Names] in
theorem is_iff {a b : Ref} : Ref.is a b = true ↔ a.s = b.s ∧ a.j = b.j := by
  simp [Ref.is]
omit [Names] in
theorem among_iff {a : Ref} : ∀ {l : List Ref}, Ref.among a l = true ↔ ∃ b ∈ l, a.s = b.s ∧ a.j = b.j
  | [] => by simp [Ref.among]
  | b :: l => by
    simp only [Ref.among, Bool.or_eq_true, is_iff, among_iff (l := l), List.mem_cons, exists_eq_or_imp]
omit [Names] in
theorem ob_put_ne {objs : Upd} {r r' : Ref} {g : Nat} {x : Nat × Ob} (hg : g = (look objs r.s).g) (hne : ¬(r'.s = r.s ∧ r'.j = r.j)) :
    Get.ob (look (put objs r.s ⟨g, setNth (look objs r.s).os r.j x⟩)) r' = Get.ob (look objs) r' := by
  unfold Get.ob
  simp only [look_put]
  by_cases e : r.s = r'.s
  · rw [if_pos e]
    have hj : r'.j ≠ r.j := fun h => hne ⟨e.symm, h⟩
    simp only [setNth_eq, nth_eq]
    rw [List.getElem?_set_ne (by omega), hg, e]
  · rw [if_neg e]
theorem kills_ok {get : Get} : ∀ (ks : List Ref) (u : Upd) (F1 : Nat → Prop), SR base S B w0 (applyUpd objs u) loc F1 w → Ext B objs loc F w (applyUpd objs u) loc F1 w → More base S F F1 →
    (∀ r ∈ ks, isLst (Get.ob (look (applyUpd objs u)) r) = true) → Ref.apart ks = true → (∀ r ∈ ks, get r.s = look objs r.s) →
    ∃ F', SR base S B w0 (applyUpd objs (kills get ks u)) loc F' w ∧ Ext B objs loc F w (applyUpd objs (kills get ks u)) loc F' w ∧ More base S F F' ∧ (∀ b, FK F1 loc ks b → F' b) ∧
      ∀ r', Ref.among r' ks = false → Get.ob (look (applyUpd objs (kills get ks u))) r' = Get.ob (look (applyUpd objs u)) r'
  | [], u, F1, h, x, m, _, _, _ => ⟨F1, h, x, m, fun b hb => by rw [FK.nil] at hb; exact hb, fun _ _ => rfl⟩
  | r :: ks, u, F1, h, x, m, hl, ha, hget => by
    have hr := hl r (by simp)
    cases ho : Get.ob (look (applyUpd objs u)) r with
    | gone => rw [ho] at hr; simp [isLst] at hr
    | box cs => rw [ho] at hr; simp [isLst] at hr
    | lst z e t xs =>
      obtain ⟨k1, k2, k3⟩ := h.kill ho
      simp only [Ref.apart, Bool.and_eq_true, Bool.not_eq_true'] at ha
      have hat := upd_at (hget r (by simp)) u
      have heq : applyUpd objs (Upd.next get u r .gone) = put (applyUpd objs u) r.s ⟨r.g, setNth (look (applyUpd objs u) r.s).os r.j (r.v + 1, .gone)⟩ := by
        show put (applyUpd objs u) r.s _ = _
        rw [hat]
      rw [← heq] at k1 k2
      have hg := (ob_some ho (by simp)).1
      have hkeep : ∀ r', ¬(r'.s = r.s ∧ r'.j = r.j) → Get.ob (look (applyUpd objs (Upd.next get u r .gone))) r' = Get.ob (look (applyUpd objs u)) r' := by
        intro r' hne
        rw [heq]
        exact ob_put_ne hg hne
      obtain ⟨F', q1, q2, q3, q4, q5⟩ := kills_ok ks (Upd.next get u r .gone) _ k1 (x.trans k2) (m.trans k3) (fun r' hr' => by
        rw [hkeep r' (fun e => ?_)]
        · exact hl r' (List.mem_cons_of_mem _ hr')
        · have : Ref.among r ks = true := among_iff.2 ⟨r', hr', e.1.symm, e.2.symm⟩
          rw [this] at ha
          exact absurd ha.1 (by simp)) ha.2 (fun r' hr' => hget r' (List.mem_cons_of_mem _ hr'))
      refine ⟨F', q1, q2, q3, fun b hb => q4 b ?_, fun r' hr' => ?_⟩
      · rcases hb with hb | ⟨r', hr', e⟩
        · exact .inl (.inl hb)
        · rcases List.mem_cons.1 hr' with rfl | hr'
          · exact .inl (.inr e)
          · exact .inr ⟨r', hr', e⟩
      · simp only [Ref.among, Bool.or_eq_false_iff] at hr'
        show Get.ob (look (applyUpd objs (kills get ks (Upd.next get u r Ob.gone)))) r' = _
        rw [q5 r' hr'.2]
        refine hkeep r' fun e => ?_
        have := is_iff.2 e
        rw [this] at hr'
        exact absurd hr'.1 (by simp)
theorem kills_gone {get : Get} : ∀ (ks : List Ref) (u : Upd), SR base S B w0 (applyUpd objs u) loc F w → Ext B objs loc F w (applyUpd objs u) loc F w →
    (∀ r ∈ ks, isLst (Get.ob (look (applyUpd objs u)) r) = true) → Ref.apart ks = true → (∀ r ∈ ks, get r.s = look objs r.s) →
    SR base S B w0 (applyUpd objs (kills get ks u)) loc F w ∧ Ext B objs loc F w (applyUpd objs (kills get ks u)) loc F w ∧
      (∀ r', Ref.among r' ks = false → Get.ob (look (applyUpd objs (kills get ks u))) r' = Get.ob (look (applyUpd objs u)) r') ∧
      (∀ b, b ∈ blks loc ks → ¬ F b ∧ ¬ B b ∧ b < w.heap.size ∧ (base ≤ b ∨ b ∈ S) ∧ ∀ (s1 j1 v1 : Nat) (o1 : Ob), (look (applyUpd objs (kills get ks u)) s1).os[j1]? = some (v1, o1) → live o1 = true → b ∉ (loc s1 j1).all) ∧
      (∀ (s j v : Nat) (o : Ob), (look (applyUpd objs (kills get ks u)) s).os[j]? = some (v, o) → live o = true → (look (applyUpd objs u) s).os[j]? = some (v, o)) ∧
      (∀ s, (look (applyUpd objs (kills get ks u)) s).g = (look (applyUpd objs u) s).g)
  | [], u, h, x, _, _, _ => ⟨h, x, fun _ _ => rfl, fun b hb => by simp [blks] at hb, fun _ _ _ _ h _ => h, fun _ => rfl⟩
  | r :: ks, u, h, x, hl, ha, hget => by
    have hr := hl r (by simp)
    cases ho : Get.ob (look (applyUpd objs u)) r with
    | gone => rw [ho] at hr; simp [isLst] at hr
    | box cs => rw [ho] at hr; simp [isLst] at hr
    | lst z e t xs =>
      obtain ⟨k1, k2⟩ := h.letgo ho
      simp only [Ref.apart, Bool.and_eq_true, Bool.not_eq_true'] at ha
      have hat := upd_at (hget r (by simp)) u
      have heq : applyUpd objs (Upd.next get u r .gone) = put (applyUpd objs u) r.s ⟨r.g, setNth (look (applyUpd objs u) r.s).os r.j (r.v + 1, .gone)⟩ := by
        show put (applyUpd objs u) r.s _ = _
        rw [hat]
      rw [← heq] at k1 k2
      have hg := (ob_some ho (by simp)).1
      have hj := (ob_some ho (by simp)).2
      have hjl : r.j < (look (applyUpd objs u) r.s).os.length := (List.getElem?_eq_some_iff.1 hj).1
      obtain ⟨pg, pe⟩ := put_facts (objs := applyUpd objs u) (s := r.s) (e0 := (r.v + 1, .gone)) hjl
      have heq2 : applyUpd objs (Upd.next get u r .gone) = put (applyUpd objs u) r.s ⟨(look (applyUpd objs u) r.s).g, (look (applyUpd objs u) r.s).os.set r.j (r.v + 1, .gone)⟩ := by
        rw [heq, setNth_eq, hg]
      have hkeep : ∀ r', ¬(r'.s = r.s ∧ r'.j = r.j) → Get.ob (look (applyUpd objs (Upd.next get u r .gone))) r' = Get.ob (look (applyUpd objs u)) r' := by
        intro r' hne
        rw [heq]
        exact ob_put_ne hg hne
      obtain ⟨q1, q2, q3, q4, q5, q6⟩ := kills_gone ks (Upd.next get u r .gone) k1 (x.trans k2) (fun r' hr' => by
        rw [hkeep r' (fun e => ?_)]
        · exact hl r' (List.mem_cons_of_mem _ hr')
        · have : Ref.among r ks = true := among_iff.2 ⟨r', hr', e.1.symm, e.2.symm⟩
          rw [this] at ha
          exact absurd ha.1 (by simp)) ha.2 (fun r' hr' => hget r' (List.mem_cons_of_mem _ hr'))
      have q5' : ∀ (s j v : Nat) (o : Ob), (look (applyUpd objs (kills get (r :: ks) u)) s).os[j]? = some (v, o) → live o = true → (look (applyUpd objs u) s).os[j]? = some (v, o) ∧ ¬(s = r.s ∧ j = r.j) := fun s j v o he hlo => by
        have := q5 s j v o he hlo
        rw [heq2, pe] at this
        split at this
        · simp only [Option.some.injEq, Prod.mk.injEq] at this
          rw [← this.2] at hlo
          simp [live] at hlo
        · rename_i hne
          exact ⟨this, hne⟩
      refine ⟨q1, q2, fun r' hr' => ?_, fun b hb => ?_, fun s j v o he hlo => (q5' s j v o he hlo).1, fun s => ?_⟩
      · simp only [Ref.among, Bool.or_eq_false_iff] at hr'
        show Get.ob (look (applyUpd objs (kills get ks (Upd.next get u r Ob.gone)))) r' = _
        rw [q3 r' hr'.2]
        refine hkeep r' fun e => ?_
        have := is_iff.2 e
        rw [this] at hr'
        exact absurd hr'.1 (by simp)
      · rw [show blks loc (r :: ks) = (loc r.s r.j).all ++ blks loc ks by simp [blks]] at hb
        rcases List.mem_append.1 hb with hb | hb
        · obtain ⟨a1, a2, a3, a4⟩ := h.own _ _ _ _ b hj rfl hb
          refine ⟨a1, a2, a3, a4, fun s1 j1 v1 o1 h1 l1 b1 => ?_⟩
          obtain ⟨h1, hne⟩ := q5' s1 j1 v1 o1 h1 l1
          exact hne (h.apart s1 j1 v1 o1 r.s r.j _ _ b h1 hj l1 rfl b1 hb)
        · exact q4 b hb
      · show (look (applyUpd objs (kills get ks (Upd.next get u r Ob.gone))) s).g = _
        rw [q6, heq2, pg]
theorem blks_nodupL : ∀ {ks : List Ref}, SR base S B w0 objs loc F w → (∀ r ∈ ks, isLst (Get.ob (look objs) r) = true) → Ref.apart ks = true → (∀ r ∈ ks, (loc r.s r.j).all.Nodup) → (blks loc ks).Nodup
  | [], _, _, _, _ => by simp [blks]
  | r :: ks, h, hl, ha, hn => by
    simp only [Ref.apart, Bool.and_eq_true, Bool.not_eq_true'] at ha
    rw [show blks loc (r :: ks) = (loc r.s r.j).all ++ blks loc ks by simp [blks]]
    have lst : ∀ r' ∈ r :: ks, ∃ o, (look objs r'.s).os[r'.j]? = some (r'.v, o) ∧ live o = true := fun r' hr' => by
      have := hl r' hr'
      cases ho : Get.ob (look objs) r' with
      | gone => rw [ho] at this; simp [isLst] at this
      | box cs => rw [ho] at this; simp [isLst] at this
      | lst z e t xs => exact ⟨_, (ob_some ho (by simp)).2, rfl⟩
    refine List.nodup_append.2 ⟨hn r (by simp), blks_nodupL h (fun r' hr' => hl r' (List.mem_cons_of_mem _ hr')) ha.2 (fun r' hr' => hn r' (List.mem_cons_of_mem _ hr')), fun b hb c hc e => ?_⟩
    subst e
    simp only [blks, List.mem_flatMap] at hc
    obtain ⟨r', hr', hb'⟩ := hc
    obtain ⟨o1, h1, l1⟩ := lst r (by simp)
    obtain ⟨o2, h2, l2⟩ := lst r' (List.mem_cons_of_mem _ hr')
    have := h.apart _ _ _ _ _ _ _ _ b h1 h2 l1 l2 hb hb'
    have hh : Ref.among r ks = true := among_iff.2 ⟨r', hr', this.1, this.2⟩
    rw [hh] at ha
    exact absurd ha.1 (by simp)
omit [Names] in
theorem LstW.nodup {α : Type} {R : α → List Value → List Nat → Prop} {width : Nat} {w : World} {l : LV} {z : Bool} {e : Nat} {xs : List α} (h : LstW R width w l z e xs) : l.all.Nodup := by
  unfold LstW at h
  unfold LV.all
  cases hb : l.blk with
  | none => rw [hb] at h; simp [h.2.2]
  | some b =>
    rw [hb] at h
    obtain ⟨_, _, _, _, _, _, _, _, _, _, hn, _⟩ := h
    simpa using hn
theorem SR.nodup {r : Ref} (h : SR base S B w0 objs loc F w) (hl : isLst (Get.ob (look objs) r) = true) : (loc r.s r.j).all.Nodup := by
  cases ho : Get.ob (look objs) r with
  | gone => rw [ho] at hl; simp [isLst] at hl
  | box cs => rw [ho] at hl; simp [isLst] at hl
  | lst z e t xs => exact LstW.nodup (h.obs _ _ _ _ (ob_some ho (by simp)).2)
theorem Val.sure1 {a : AV} {v : Value} (h : Val objs loc F B w a v) (hs : a.sure = true) : Val1 objs loc F B w a v := by
  revert h hs
  cases a <;> intro h hs <;> first | exact h | (simp [AV.sure] at hs)
theorem val_cells {a : AV} {v : Value} (h : Val1 objs loc F B w a v) (hs : a.sure = true) : Leafs objs loc F B w a.cells v.cells.toList := by
  have one : ∀ {a : AV} {v : Value}, Leaf objs loc F B w a v → a ≠ .dead → a.cells = [a] → Leafs objs loc F B w a.cells v.cells.toList := by
    intro a v hl h1 hc
    rw [hc]
    have h1 := hl.one h1
    have : v.cells = #[v] := by cases v <;> simp_all [Value.cells, Value.oneCell']
    rw [this]
    exact ⟨h1, hl, trivial⟩
  cases a with
  | dead => simp [AV.sure] at hs
  | agg cs => obtain ⟨vs, rfl, hl⟩ := h; exact hl
  | tup cs => simp [AV.sure] at hs
  | fn f cs =>
    cases cs with
    | cons _ _ => simp [AV.sure] at hs
    | nil =>
      obtain ⟨vs, rfl, hl⟩ := h
      have : vs.toList = [] := by cases hvs : vs.toList with | nil => rfl | cons _ _ => rw [hvs] at hl; exact hl.elim
      have : vs = #[] := by simpa using this
      subst this
      exact ⟨rfl, ⟨rfl, rfl⟩, trivial⟩
  | int k n => exact one (a := .int k n) h (by simp) rfl
  | bool b => exact one (a := .bool b) h (by simp) rfl
  | str s => exact one (a := .str s) h (by simp) rfl
  | nils => exact one (a := .nils) h (by simp) rfl
  | nilp => exact one (a := .nilp) h (by simp) rfl
  | il b t xs => exact one (a := .il b t xs) h (by simp) rfl
  | ol r vw => exact one (a := .ol r vw) h (by simp) rfl
  | ptr r n => exact one (a := .ptr r n) h (by simp) rfl
  | ep r i n => exact one (a := .ep r i n) h (by simp) rfl
  | ip b t xs i off => exact one (a := .ip b t xs i off) h (by simp) rfl
  | nm n => exact one (a := .nm n) h (by simp) rfl
  | nl r k i off => exact one (a := .nl r k i off) h (by simp) rfl
  | np r k i off j o2 => exact one (a := .np r k i off j o2) h (by simp) rfl
end
end Go.Eng
end

section
namespace Go.Eng
variable [Names]
section
variable {base : Nat} {S : List Nat} {B F : Nat → Prop} {w0 : World} {objs : Upd} {loc : Loc} {w : World} {ρ : Type}
def splice (vs : List Value) (off : Nat) (us : List Value) : List Value := vs.take off ++ us ++ vs.drop (off + us.length)
omit [Names] in
theorem splice_all {vs us : List Value} (h : us.length = vs.length) : splice vs 0 us = us := by
  simp [splice, h]
omit [Names] in
theorem splice_left {c d us : List Value} {off : Nat} (h : off + us.length ≤ c.length) : splice (c ++ d) off us = splice c off us ++ d := by
  unfold splice
  rw [List.take_append_of_le_length (by omega), List.drop_append_of_le_length (by omega)]
  simp [List.append_assoc]
omit [Names] in
theorem splice_right {c d us : List Value} {off : Nat} (h : c.length ≤ off) : splice (c ++ d) off us = c ++ splice d (off - c.length) us := by
  unfold splice
  rw [List.take_append, List.drop_append, List.take_of_length_le h, List.drop_eq_nil_of_le (by omega)]
  simp only [List.nil_append, List.append_assoc]
  congr 4
  omega
theorem putRow_ok {get : Get} (h : SR base S B w0 objs loc F w) : ∀ {t : Ty}, t.hasO = false → ∀ {x : t.den} {off : Nat} {cs : List AV} {vs us : List Value} {K : t.den → List Ref → Option ρ} {res : ρ},
    putRow get t x off cs K = some res → IRep F w t x vs → Leafs objs loc F B w cs us → (∀ s ∈ AV.slots.go cs, get s = look objs s) →
    ∃ y ks, K y ks = some res ∧ IRep (FK F loc ks) w t y (splice vs off us) ∧ off + us.length ≤ t.w ∧ ∀ r ∈ ks, isLst (Get.ob (look objs) r) = true ∧ get r.s = look objs r.s := by
  have plain : ∀ {t : Ty}, t.hasO = false → ∀ {cs : List AV} {vs us : List Value} {K : t.den → List Ref → Option ρ} {res : ρ}, toRow get t cs K = some res → vs.length = t.w → Leafs objs loc F B w cs us → (∀ s ∈ AV.slots.go cs, get s = look objs s) →
      ∃ y ks, K y ks = some res ∧ IRep (FK F loc ks) w t y (splice vs 0 us) ∧ 0 + us.length ≤ t.w ∧ ∀ r ∈ ks, isLst (Get.ob (look objs) r) = true ∧ get r.s = look objs r.s := by
    intro t hto cs vs us K res hk hl hc hg
    obtain ⟨y, ks, h1, h2, h3⟩ := toRow_ok h hto hk hc hg
    have := h2.len
    exact ⟨y, ks, h1, by rw [splice_all (by omega)]; exact h2, by omega, h3⟩
  intro t
  induction t with
  | pair a b iha ihb =>
    intro hto x off cs vs us K res hk hr hc hg
    have hto' := hto
    simp only [Ty.hasO, Bool.or_eq_false_iff] at hto
    obtain ⟨c, d, rfl, hr1, hr2⟩ := hr
    unfold putRow at hk
    split at hk
    · rename_i e
      obtain ⟨rfl, _⟩ := e
      exact plain hto' hk (by rw [List.length_append, hr1.len, hr2.len]; rfl) hc hg
    · split at hk
      · obtain ⟨y, ks, h1, h2, h3, h4⟩ := iha hto.1 hk hr1 hc hg
        refine ⟨_, ks, h1, ?_, by simp only [Ty.w]; omega, h4⟩
        rw [splice_left (by rw [hr1.len]; omega)]
        exact ⟨_, _, rfl, h2, hr2.mono (fun _ hb => .inl hb) (fun _ _ => rfl)⟩
      · rename_i hlt
        obtain ⟨y, ks, h1, h2, h3, h4⟩ := ihb hto.2 hk hr2 hc hg
        refine ⟨_, ks, h1, ?_, by simp only [Ty.w]; omega, h4⟩
        rw [splice_right (by rw [hr1.len]; omega), hr1.len]
        exact ⟨_, _, rfl, hr1.mono (fun _ hb => .inl hb) (fun _ _ => rfl), h2⟩
  | int k =>
    intro hto x off cs vs us K res hk hr hc hg
    cases off with
    | zero => exact plain hto hk hr.len hc hg
    | succ n => simp [putRow] at hk
  | bool =>
    intro hto x off cs vs us K res hk hr hc hg
    cases off with
    | zero => exact plain hto hk hr.len hc hg
    | succ n => simp [putRow] at hk
  | str =>
    intro hto x off cs vs us K res hk hr hc hg
    cases off with
    | zero => exact plain hto hk hr.len hc hg
    | succ n => simp [putRow] at hk
  | list t _ =>
    intro hto x off cs vs us K res hk hr hc hg
    cases off with
    | zero => exact plain hto hk hr.len hc hg
    | succ n => simp [putRow] at hk
  | unit =>
    intro hto x off cs vs us K res hk hr hc hg
    cases off with
    | zero => exact plain hto hk hr.len hc hg
    | succ n => simp [putRow] at hk
  | nm =>
    intro hto x off cs vs us K res hk hr hc hg
    cases off with
    | zero => exact plain hto hk hr.len hc hg
    | succ n => simp [putRow] at hk
  | ols e t _ => intro hto; simp [Ty.hasO] at hto
  | olq e t _ => intro hto; simp [Ty.hasO] at hto
theorem putRowT_ok {get : Get} (h : SR base S B w0 objs loc F w) : ∀ {t : Ty}, t.hasL = false → ∀ {x : t.den} {off : Nat} {cs : List AV} {vs us : List Value} {S0 : List Nat} {K : t.den → List Ref → Option ρ} {res : ρ},
    putRow get t x off cs K = some res → TRep F w t x vs S0 → Leafs objs loc F B w cs us → (∀ s ∈ AV.slots.go cs, get s = look objs s) →
    ∃ y ks S1 S2 S3, K y ks = some res ∧ TRep F w t y (splice vs off us) (S1 ++ blks loc ks ++ S3) ∧ S0 = S1 ++ S2 ++ S3 ∧ off + us.length ≤ t.w ∧ ∀ r ∈ ks, isLst (Get.ob (look objs) r) = true ∧ get r.s = look objs r.s := by
  have plain : ∀ {t : Ty}, t.hasL = false → ∀ {cs : List AV} {vs us : List Value} {S0 : List Nat} {K : t.den → List Ref → Option ρ} {res : ρ}, toRow get t cs K = some res → vs.length = t.w → Leafs objs loc F B w cs us → (∀ s ∈ AV.slots.go cs, get s = look objs s) →
      ∃ y ks S1 S2 S3, K y ks = some res ∧ TRep F w t y (splice vs 0 us) (S1 ++ blks loc ks ++ S3) ∧ S0 = S1 ++ S2 ++ S3 ∧ 0 + us.length ≤ t.w ∧ ∀ r ∈ ks, isLst (Get.ob (look objs) r) = true ∧ get r.s = look objs r.s := by
    intro t htl cs vs us S0 K res hk hl hc hg
    obtain ⟨y, ks, h1, h2, h3⟩ := toRowT_ok h htl hk hc hg
    have := h2.len
    exact ⟨y, ks, [], S0, [], h1, by rw [splice_all (by omega)]; simpa using h2, by simp, by omega, h3⟩
  have leaf : ∀ {t : Ty}, t.hasL = false → (∀ (x : t.den) (off : Nat) (cs : List AV) (ρ : Type) (K : t.den → List Ref → Option ρ) (res : ρ), putRow get t x off cs K = some res → off = 0 ∧ toRow get t cs K = some res) → ∀ {x : t.den} {off : Nat} {cs : List AV} {vs us : List Value} {S0 : List Nat} {K : t.den → List Ref → Option ρ} {res : ρ},
    putRow get t x off cs K = some res → TRep F w t x vs S0 → Leafs objs loc F B w cs us → (∀ s ∈ AV.slots.go cs, get s = look objs s) →
    ∃ y ks S1 S2 S3, K y ks = some res ∧ TRep F w t y (splice vs off us) (S1 ++ blks loc ks ++ S3) ∧ S0 = S1 ++ S2 ++ S3 ∧ off + us.length ≤ t.w ∧ ∀ r ∈ ks, isLst (Get.ob (look objs) r) = true ∧ get r.s = look objs r.s := by
    intro t htl hp x off cs vs us S0 K res hk hr hc hg
    obtain ⟨rfl, hk2⟩ := hp x off cs _ K res hk
    exact plain htl hk2 hr.len hc hg
  intro t
  induction t with
  | pair a b iha ihb =>
    intro htl x off cs vs us S0 K res hk hr hc hg
    have htl' := htl
    simp only [Ty.hasL, Bool.or_eq_false_iff] at htl
    have hlen := hr.len
    obtain ⟨c, d, Sa, Sb, rfl, rfl, hr1, hr2⟩ := hr
    unfold putRow at hk
    split at hk
    · rename_i e
      obtain ⟨rfl, _⟩ := e
      exact plain htl' hk hlen hc hg
    · split at hk
      · obtain ⟨y, ks, S1, S2, S3, h1, h2, h5, h3, h4⟩ := iha htl.1 hk hr1 hc hg
        refine ⟨_, ks, S1, S2, S3 ++ Sb, h1, ?_, by rw [h5]; simp only [List.append_assoc], by simp only [Ty.w]; omega, h4⟩
        rw [splice_left (by rw [hr1.len]; omega)]
        exact ⟨_, _, _, _, rfl, by simp only [List.append_assoc], h2, hr2⟩
      · rename_i hlt
        obtain ⟨y, ks, S1, S2, S3, h1, h2, h5, h3, h4⟩ := ihb htl.2 hk hr2 hc hg
        refine ⟨_, ks, Sa ++ S1, S2, S3, h1, ?_, by rw [h5]; simp only [List.append_assoc], by simp only [Ty.w]; omega, h4⟩
        rw [splice_right (by rw [hr1.len]; omega), hr1.len]
        exact ⟨_, _, _, _, rfl, by simp only [List.append_assoc], hr1, h2⟩
  | int k =>
    intro htl
    refine leaf htl fun x off cs ρ K res hk => ?_
    cases off with
    | zero => exact ⟨rfl, hk⟩
    | succ n => simp [putRow] at hk
  | bool =>
    intro htl
    refine leaf htl fun x off cs ρ K res hk => ?_
    cases off with
    | zero => exact ⟨rfl, hk⟩
    | succ n => simp [putRow] at hk
  | str =>
    intro htl
    refine leaf htl fun x off cs ρ K res hk => ?_
    cases off with
    | zero => exact ⟨rfl, hk⟩
    | succ n => simp [putRow] at hk
  | list t _ =>
    intro htl
    refine leaf htl fun x off cs ρ K res hk => ?_
    cases off with
    | zero => exact ⟨rfl, hk⟩
    | succ n => simp [putRow] at hk
  | unit =>
    intro htl
    refine leaf htl fun x off cs ρ K res hk => ?_
    cases off with
    | zero => exact ⟨rfl, hk⟩
    | succ n => simp [putRow] at hk
  | nm =>
    intro htl
    refine leaf htl fun x off cs ρ K res hk => ?_
    cases off with
    | zero => exact ⟨rfl, hk⟩
    | succ n => simp [putRow] at hk
  | olq e t _ =>
    intro htl
    refine leaf htl fun x off cs ρ K res hk => ?_
    cases off with
    | zero => exact ⟨rfl, hk⟩
    | succ n => simp [putRow] at hk
  | ols e t _ =>
    intro htl
    refine leaf htl fun x off cs ρ K res hk => ?_
    cases off with
    | zero => exact ⟨rfl, hk⟩
    | succ n => simp [putRow] at hk
omit [Names] in
theorem cells_slots {v : AV} (hs : v.sure = true) : ∀ s ∈ AV.slots.go v.cells, s ∈ AV.slots v := by
  intro s hs'
  cases v <;> simp_all [AV.cells, AV.slots, AV.slots.go, AV.sure]
theorem toRows_ok {get : Get} (h : SR base S B w0 objs loc F w) {t : Ty} (hto : t.hasO = false) : ∀ {vs : List AV} {cvs : List Value} {K : List t.den → List Ref → Option ρ} {res : ρ}, toRows get t vs K = some res →
    vs.length = cvs.length → (∀ (i : Nat) (v : AV) (cv : Value), vs[i]? = some v → cvs[i]? = some cv → Val objs loc F B w v cv) → (∀ v ∈ vs, ∀ s ∈ AV.slots v, get s = look objs s) →
    ∃ xs ks, K xs ks = some res ∧ xs.length = cvs.length ∧ (∀ (i : Nat) (x : t.den) (cv : Value), xs[i]? = some x → cvs[i]? = some cv → IRep (FK F loc ks) w t x cv.cells.toList) ∧ ∀ r ∈ ks, isLst (Get.ob (look objs) r) = true ∧ get r.s = look objs r.s
  | [], [], K, res, hk, _, _, _ => ⟨[], [], hk, rfl, fun i x cv hx => by simp at hx, by simp⟩
  | v :: vs, cv :: cvs, K, res, hk, hl, hv, hg => by
    unfold toRows at hk
    split at hk
    · rename_i hsure
      have hc := val_cells ((hv 0 v cv rfl rfl).sure1 hsure) hsure
      obtain ⟨x, ks, hk, h1, h2⟩ := toRow_ok h hto hk hc (fun s hs => hg v (by simp) s (cells_slots hsure s hs))
      obtain ⟨xs, ks', hk, h3, h4, h5⟩ := toRows_ok h hto hk (by simpa using hl) (fun i v' cv' a b => hv (i + 1) v' cv' (by simpa using a) (by simpa using b)) (fun v' hv' => hg v' (List.mem_cons_of_mem _ hv'))
      refine ⟨x :: xs, ks ++ ks', hk, by simp [h3], fun i y cv' hy hcv => ?_, fun r hr => ?_⟩
      · cases i with
        | zero => simp at hy hcv; subst hy; subst hcv; exact h1.mono FK.left (fun _ _ => rfl)
        | succ i => exact (h4 i y cv' (by simpa using hy) (by simpa using hcv)).mono FK.right (fun _ _ => rfl)
      · rcases List.mem_append.1 hr with hr | hr
        · exact h2 r hr
        · exact h5 r hr
    · cases hk
  | [], _ :: _, _, _, _, hl, _, _ => by simp at hl
  | _ :: _, [], _, _, _, hl, _, _ => by simp at hl
theorem toRowsT_ok {get : Get} (h : SR base S B w0 objs loc F w) {t : Ty} (htl : t.hasL = false) : ∀ {vs : List AV} {cvs : List Value} {K : List t.den → List Ref → Option ρ} {res : ρ}, toRows get t vs K = some res →
    vs.length = cvs.length → (∀ (i : Nat) (v : AV) (cv : Value), vs[i]? = some v → cvs[i]? = some cv → Val objs loc F B w v cv) → (∀ v ∈ vs, ∀ s ∈ AV.slots v, get s = look objs s) →
    ∃ (xs : List t.den) (ks : List Ref) (Ss : List (List Nat)), K xs ks = some res ∧ xs.length = cvs.length ∧ Ss.length = cvs.length ∧ Ss.flatten = blks loc ks ∧ (∀ (i : Nat) (x : t.den) (cv : Value) (S0 : List Nat), xs[i]? = some x → cvs[i]? = some cv → Ss[i]? = some S0 → TRep F w t x cv.cells.toList S0) ∧ ∀ r ∈ ks, isLst (Get.ob (look objs) r) = true ∧ get r.s = look objs r.s
  | [], [], K, res, hk, _, _, _ => ⟨[], [], [], hk, rfl, rfl, by simp [blks], fun i x cv _ hx => by simp at hx, by simp⟩
  | v :: vs, cv :: cvs, K, res, hk, hl, hv, hg => by
    unfold toRows at hk
    split at hk
    · rename_i hsure
      have hc := val_cells ((hv 0 v cv rfl rfl).sure1 hsure) hsure
      obtain ⟨x, ks, hk, h1, h2⟩ := toRowT_ok h htl hk hc (fun s hs => hg v (by simp) s (cells_slots hsure s hs))
      obtain ⟨xs, ks', Ss, hk, h3, h6, h7, h4, h5⟩ := toRowsT_ok h htl hk (by simpa using hl) (fun i v' cv' a b => hv (i + 1) v' cv' (by simpa using a) (by simpa using b)) (fun v' hv' => hg v' (List.mem_cons_of_mem _ hv'))
      refine ⟨x :: xs, ks ++ ks', blks loc ks :: Ss, hk, by simp [h3], by simp [h6], by simp [h7, blks_append], fun i y cv' S0 hy hcv hS => ?_, fun r hr => ?_⟩
      · cases i with
        | zero => simp at hy hcv hS; subst hy; subst hcv; subst hS; exact h1
        | succ i => exact h4 i y cv' S0 (by simpa using hy) (by simpa using hcv) (by simpa using hS)
      · rcases List.mem_append.1 hr with hr | hr
        · exact h2 r hr
        · exact h5 r hr
    · cases hk
  | [], _ :: _, _, _, _, hl, _, _ => by simp at hl
  | _ :: _, [], _, _, _, hl, _, _ => by simp at hl
theorem rowsOf_ok {get : Get} (h : SR base S B w0 objs loc F w) {t : Ty} (hto : t.hasO = false) {v : AV} {cv : Value} {K : List t.den → Option ρ} {res : ρ} (hk : rowsOf get t v K = some res) (hv : Val objs loc F B w v cv)
    (hg : ∀ s ∈ AV.slots v, get s = look objs s) : ∃ xs, K xs = some res ∧
      ((∃ a n c, cv = .slice a n c ∧ (∀ s, v ≠ .str s) ∧ xs.length = n ∧ n ≤ c ∧ (0 < n → ∃ b o, a = some ⟨b, o, none⟩ ∧ b < w.heap.size ∧ RowsAt (IRep F w t) w t.w b o xs)) ∨
       (∃ s, v = .str s ∧ cv = .string s ∧ ∃ e : t = .int .u8, xs = e ▸ bytesOf s)) := by
  unfold rowsOf at hk
  split at hk
  · refine ⟨_, hk, .inl ⟨none, 0, 0, ?_, by simp, rfl, Nat.le_refl _, fun h => absurd h (by omega)⟩⟩
    cases hv; rfl
  · rename_i b t' xs
    split at hk
    · rename_i hb
      split at hk
      · rename_i e; subst e
        refine ⟨_, hk, .inl ?_⟩
        have hv' : IRep (fun x => F x ∨ (b = true ∧ B x)) w (.list t') xs [cv] := hv
        obtain ⟨a, n, c, e, h1, h2, h3⟩ := hv'
        cases e
        refine ⟨a, n, c, rfl, by simp, h1, h2, fun hn => ?_⟩
        obtain ⟨bl, o, rfl, hF, hlt, hr⟩ := h3 hn
        refine ⟨bl, o, rfl, hlt, fun i hi => ?_⟩
        obtain ⟨rs, k1, k2, k3⟩ := hr i hi
        refine ⟨rs, k1, k2, ?_⟩
        cases b with
        | false => exact k3.noB
        | true => exact k3.flat (by simpa using hb)
      · cases hk
    · cases hk
  · rename_i r vw
    have hob : Get.ob get r = Get.ob (look objs) r := by
      unfold Get.ob
      rw [hg r.s (by simp [AV.slots])]
    rw [hob] at hk
    split at hk
    · rename_i z e t' xs ho
      split at hk
      · rename_i et; subst et
        have hv' : Leaf objs loc F B w (.ol r vw) cv := hv
        obtain ⟨a, n, c, rfl, h1, h2, h3⟩ := lst_view hto h ho (RS.found hv'.2 ho (by simp))
        refine ⟨_, hk, .inl ⟨a, n, c, rfl, by simp, h1, h2, fun hn => ?_⟩⟩
        obtain ⟨b, o, rfl, _, hlt, hr⟩ := h3 hn
        exact ⟨b, o, rfl, hlt, hr⟩
      · cases hk
    · cases hk
  · rename_i s
    split at hk
    · rename_i e
      refine ⟨_, hk, .inr ⟨s, rfl, by cases hv; rfl, e, rfl⟩⟩
    · cases hk
  · cases hk
end
end Go.Eng
end

section
namespace Go.Eng
variable [Names]
def avZero : AV → Value → Bool
  | .int k n, .int k' n' => decide (k = k') && n == 0 && n' == 0
  | .bool false, .bool false => true
  | .str s, .string s' => s.size == 0 && s'.size == 0
  | .nils, .slice none 0 0 => true
  | .nilp, .pointer none => true
  | .dead, v => v.oneCell'
  | _, _ => false
def zeros : List AV → List Value → Bool
  | [], [] => true
  | a :: as, v :: vs => avZero a v && zeros as vs
  | _, _ => false
def avVal : AV → Value
  | .int k n => .int k n
  | .bool b => .bool b
  | .str s => .string s
  | _ => undef
structure TIok (P : Program) (t : Nat) (i : TI) : Prop where
  row : i.w ≠ 0 → ∃ d inf, P.underlying t = some d ∧ d.isRow = i.agg ∧ P.info? t = some inf ∧ inf.size = i.w
  zero : i.zero ≠ [] → ∃ inf z, P.info? t = some inf ∧ inf.zero = some z ∧ zeros i.zero z.cells.toList = true
  offs : ∀ f off ft, nth? i.offs f = some (off, ft) → ∃ fields fd, P.underlying t = some (.struct fields) ∧ fields[f]? = some fd ∧ fd.offset = off ∧ fd.type = ft ∧ ∃ inf, P.info? ft = some inf ∧ inf.size ≠ 0
  places : i.offs ≠ [] → ∃ fields places, P.underlying t = some (.struct fields) ∧ fields.toList.mapM (fun f => (P.info? f.type).map fun i => (f.offset, i.size)) = some places ∧
    ∀ f off ft, nth? i.offs f = some (off, ft) → ∃ inf, P.info? ft = some inf ∧ places[f]? = some (off, inf.size)
  int : ∀ k, i.kind = .int k → P.underlying t = some (.int k)
  str : i.kind = .str → P.underlying t = some .string
  bool : i.kind = .bool → P.underlying t = some .bool
  eq : i.eqk ≠ [] → P.eqGuardType P.depth t = false ∧ ∀ as bs e w, fits i.eqk as = true → fits i.eqk bs = true → cellsEq as bs = some e →
    (Op.equalIn 10000 t (.agg (as.map avVal).toArray) (.agg (bs.map avVal).toArray)).run P w = .ok e w
  slice : ∀ e ty, i.kind = .slice e ty → P.underlying t = some (.slice e) ∧ ∃ inf z, P.info? e = some inf ∧ inf.size = ty.w ∧ 0 < ty.w ∧ inf.bytes ≤ 512 ∧ inf.zero = some z ∧ z.cells.size = ty.w ∧ (ty = .int .u8 → P.underlying e = some (.int .u8))
  arr : ∀ e n, i.kind = .arr e n → P.underlying t = some (.array n e) ∧ ∃ inf, P.info? e = some inf ∧ inf.size = 1
def TOk (P : Program) (T : TT) : Prop := ∀ t, TIok P t (T.at t)
omit [Names] in
theorem TIok.none (P : Program) (t : Nat) : TIok P t .none :=
  ⟨fun h => absurd rfl h, fun h => absurd rfl h, fun f off ft h => by simp [TI.none, nth?] at h, fun h => absurd rfl h, fun k h => by simp [TI.none] at h, fun h => by simp [TI.none] at h, fun h => by simp [TI.none] at h, fun h => absurd rfl h, fun e ty h => by simp [TI.none] at h, fun e n h => by simp [TI.none] at h⟩
omit [Names] in
theorem nth?_eq {α : Type} (l : List α) (i : Nat) : nth? l i = l[i]? := by
  induction l generalizing i with
  | nil => rfl
  | cons x xs ih => cases i with
    | zero => rfl
    | succ i => simpa [nth?] using ih i
section
variable {P : Program} {T : TT} {base : Nat} {S : List Nat} {B F : Nat → Prop} {w0 : World} {objs : Upd} {loc : Loc} {w : World} {ρ : Type}
def Good (P : Program) (base : Nat) (S : List Nat) (B : Nat → Prop) (w0 : World) (objs : Upd) (loc : Loc) (F : Nat → Prop) (w : World) (o : Oper) (ev : Operand → Value) (K : AV → Upd → Option ρ) (res : ρ) : Prop :=
  ∃ v u n cv w' loc' F', K v u = some res ∧ (execOp ev o).run P w = .ok n w' ∧ (n = .value cv ∨ (n = .skip ∧ cv = undef)) ∧ SR base S B w0 (applyUpd objs u) loc' F' w' ∧
    Ext B objs loc F w (applyUpd objs u) loc' F' w' ∧ More base S F F' ∧ Val (applyUpd objs u) loc' F' B w' v cv
theorem Good.pure {o : Oper} {ev : Operand → Value} {K : AV → Upd → Option ρ} {res : ρ} {v : AV} {cv : Value} (h : SR base S B w0 objs loc F w) (hk : K v [] = some res)
    (hr : (execOp ev o).run P w = .ok (.value cv) w) (hv : Val objs loc F B w v cv) : Good P base S B w0 objs loc F w o ev K res :=
  ⟨v, [], _, cv, w, loc, F, hk, hr, .inl rfl, h, Ext.refl _ _ _ _ _, More.refl _ _ _, hv⟩
theorem val_int {k : IntKind} {n : Int} {v : Value} (h : Val objs loc F B w (.int k n) v) : v = .int k n := h
theorem val_bool {b : Bool} {v : Value} (h : Val objs loc F B w (.bool b) v) : v = .bool b := h
theorem val_str {s : ByteArray} {v : Value} (h : Val objs loc F B w (.str s) v) : v = .string s := h
theorem good_move {o : Oper} {x : Operand} {av : AV} {ev : Operand → Value} {K : AV → Upd → Option ρ} {res : ρ} (ho : o.op = .move x ∨ o.op = .assign x) (h : SR base S B w0 objs loc F w)
    (hk : K av [] = some res) (hv : Val objs loc F B w av (ev x)) : Good P base S B w0 objs loc F w o ev K res := by
  refine Good.pure h hk ?_ hv
  rcases ho with ho | ho <;> simp [execOp, ho]
theorem good_pick {o : Oper} {c x y : Operand} {b : Bool} {ax ay : AV} {ev : Operand → Value} {K : AV → Upd → Option ρ} {res : ρ} (ho : o.op = .pick c x y) (h : SR base S B w0 objs loc F w)
    (hb : Val objs loc F B w (.bool b) (ev c)) (hx : Val objs loc F B w ax (ev x)) (hy : Val objs loc F B w ay (ev y)) (hk : (if b = true then K ax [] else K ay []) = some res) : Good P base S B w0 objs loc F w o ev K res := by
  have hb := val_bool hb
  cases b with
  | true => exact Good.pure h (by simpa using hk) (by simp [execOp, ho, hb, asBool]) hx
  | false => exact Good.pure h (by simpa using hk) (by simp [execOp, ho, hb, asBool]) hy
theorem good_bin_int {o : Oper} {op : BinOp} {t u : TypeId} {x y : Operand} {k : IntKind} {a b : Int} {ev : Operand → Value} {K : AV → Upd → Option ρ} {res : ρ} (ho : o.op = .binOp op t x y u) (h : SR base S B w0 objs loc F w)
    (hx : Val objs loc F B w (.int k a) (ev x)) (hy : Val objs loc F B w (.int k b) (ev y)) (hs : op ≠ .shl ∧ op ≠ .shr) (hk : intBin op k a b (fun v => K v []) = some res) : Good P base S B w0 objs loc F w o ev K res := by
  have hx := val_int hx
  have hy := val_int hy
  unfold intBin at hk
  split at hk
  case h_1 => exact Good.pure h hk (by simp [execOp, ho, hx, hy, binOp, eqGuard, Op.intArith]) rfl
  case h_2 => exact Good.pure h hk (by simp [execOp, ho, hx, hy, binOp, eqGuard, Op.intArith]) rfl
  case h_3 => exact Good.pure h hk (by simp [execOp, ho, hx, hy, binOp, eqGuard, Op.intArith]) rfl
  case h_4 =>
    split at hk
    · cases hk
    · rename_i hb; exact Good.pure h hk (by simp [execOp, ho, hx, hy, binOp, eqGuard, Op.intDiv, hb]) rfl
  case h_5 =>
    split at hk
    · cases hk
    · rename_i hb; exact Good.pure h hk (by simp [execOp, ho, hx, hy, binOp, eqGuard, Op.intDiv, hb]) rfl
  case h_6 => exact Good.pure h hk (by simp [execOp, ho, hx, hy, binOp, eqGuard, Op.intBits, bitsI]) rfl
  case h_7 => exact Good.pure h hk (by simp [execOp, ho, hx, hy, binOp, eqGuard, Op.intBits, bitsI]) rfl
  case h_8 => exact Good.pure h hk (by simp [execOp, ho, hx, hy, binOp, eqGuard, Op.intBits, bitsI]) rfl
  case h_9 => exact Good.pure h hk (by simp [execOp, ho, hx, hy, binOp, eqGuard, Op.intBits, bitsI]) rfl
  case h_10 => exact Good.pure (cv := .bool (decide (a = b))) h hk (by simp [execOp, ho, hx, hy, binOp, eqGuard, Op.intCmp]; rfl) rfl
  case h_11 => exact Good.pure (cv := .bool (!decide (a = b))) h hk (by simp [execOp, ho, hx, hy, binOp, eqGuard, Op.intCmp]; rfl) rfl
  case h_12 => exact Good.pure (cv := .bool (decide (a < b))) h hk (by simp [execOp, ho, hx, hy, binOp, eqGuard, Op.intCmp]) rfl
  case h_13 => exact Good.pure (cv := .bool (decide (a ≤ b))) h hk (by simp [execOp, ho, hx, hy, binOp, eqGuard, Op.intCmp]) rfl
  case h_14 => exact Good.pure (cv := .bool (decide (b < a))) h hk (by simp [execOp, ho, hx, hy, binOp, eqGuard, Op.intCmp]) rfl
  case h_15 => exact Good.pure (cv := .bool (decide (b ≤ a))) h hk (by simp [execOp, ho, hx, hy, binOp, eqGuard, Op.intCmp]) rfl
  case h_16 => cases hk
theorem good_shift {o : Oper} {op : BinOp} {t u : TypeId} {x y : Operand} {k k' : IntKind} {a b : Int} {ev : Operand → Value} {K : AV → Upd → Option ρ} {res : ρ} (ho : o.op = .binOp op t x y u) (h : SR base S B w0 objs loc F w)
    (hx : Val objs loc F B w (.int k a) (ev x)) (hy : Val objs loc F B w (.int k' b) (ev y)) (hk : shiftBin op k a b (fun v => K v []) = some res) : Good P base S B w0 objs loc F w o ev K res := by
  have hx := val_int hx
  have hy := val_int hy
  unfold shiftBin at hk
  split at hk
  · split at hk
    · cases hk
    · rename_i hb; exact Good.pure h hk (by simp [execOp, ho, hx, hy, binOp, eqGuard, Op.shift, hb]) rfl
  · split at hk
    · cases hk
    · rename_i hb; exact Good.pure h hk (by simp [execOp, ho, hx, hy, binOp, eqGuard, Op.shift, hb]) rfl
  · cases hk
omit [Names] in
theorem bytes_eq (a b : ByteArray) : (a.toList == b.toList) = decide (a = b) := by
  rw [Bool.eq_iff_iff, beq_iff_eq, decide_eq_true_iff]
  constructor
  · intro e
    rw [ByteArray.toList_eq, ByteArray.toList_eq] at e
    cases a; cases b
    simp only at e
    congr 1
    exact Array.ext' e
  · rintro rfl; rfl
theorem good_bin_str {o : Oper} {op : BinOp} {t u : TypeId} {x y : Operand} {a b : ByteArray} {ev : Operand → Value} {K : AV → Upd → Option ρ} {res : ρ} (ho : o.op = .binOp op t x y u) (h : SR base S B w0 objs loc F w)
    (hx : Val objs loc F B w (.str a) (ev x)) (hy : Val objs loc F B w (.str b) (ev y)) (hk : strBin op a b (fun v => K v []) = some res) : Good P base S B w0 objs loc F w o ev K res := by
  have hx := val_str hx
  have hy := val_str hy
  unfold strBin at hk
  split at hk
  · split at hk
    · rename_i hb
      refine Good.pure h hk ?_ rfl
      simp only [maxStr] at hb
      have hb' : (a.size : Int) + (b.size : Int) ≤ 9223372036854775807 := by omega
      simp [execOp, ho, hx, hy, binOp, eqGuard, Op.stringOp]
      exact hb'
    · cases hk
  · refine Good.pure h hk ?_ rfl
    have := bytes_eq a b
    simp [execOp, ho, hx, hy, binOp, eqGuard, Op.stringOp] at this ⊢
    try exact this
  · refine Good.pure h hk ?_ rfl
    have := bytes_eq a b
    simp [execOp, ho, hx, hy, binOp, eqGuard, Op.stringOp] at this ⊢
    try (rw [this])
  · cases hk
end
end Go.Eng
end

section
namespace Go.Eng
variable [Names]
section
variable {P : Program} {T : TT} {base : Nat} {S : List Nat} {B F : Nat → Prop} {w0 : World} {objs : Upd} {loc : Loc} {w : World} {ρ : Type}
theorem good_bin_bool {o : Oper} {op : BinOp} {t u : TypeId} {x y : Operand} {a b : Bool} {ev : Operand → Value} {K : AV → Upd → Option ρ} {res : ρ} (hT : TOk P T) (ho : o.op = .binOp op t x y u) (h : SR base S B w0 objs loc F w)
    (hx : Val objs loc F B w (.bool a) (ev x)) (hy : Val objs loc F B w (.bool b) (ev y)) (hk : boolK (T.at t).kind op a b K = some res) : Good P base S B w0 objs loc F w o ev K res := by
  have hx := val_bool hx
  have hy := val_bool hy
  have hg : (eqGuard op t x y (.bool a) (.bool b)).run P w = .ok () w := by unfold eqGuard; cases op <;> rfl
  unfold boolK at hk
  split at hk
  · rename_i hkind
    have ht := (hT t).bool hkind
    refine Good.pure (cv := .bool (decide (a = b))) h hk ?_ rfl
    simp only [execOp, ho, hx, hy, hg, binOp, Sem.run_bind, Sem.run_pure, Result.andThen_ok, run_equal_bool w t a b ht]
    cases a <;> cases b <;> rfl
  · rename_i hkind
    have ht := (hT t).bool hkind
    refine Good.pure (cv := .bool (!decide (a = b))) h hk ?_ rfl
    simp only [execOp, ho, hx, hy, hg, binOp, Sem.run_bind, Sem.run_pure, Result.andThen_ok, run_equal_bool w t a b ht]
    cases a <;> cases b <;> rfl
  · cases hk
theorem leafs_vals : ∀ {ks : List Ty} {as : List AV} {vs : List Value}, fits ks as = true → Leafs objs loc F B w as vs → vs = as.map avVal
  | [], [], [], _, _ => rfl
  | k :: ks, a :: as, v :: vs, hf, hl => by
    simp only [fits, Bool.and_eq_true] at hf
    have h1 : v = avVal a := by
      have := hl.2.1
      cases k <;> cases a <;> simp_all [fit, avVal, Leaf]
    rw [List.map_cons, ← h1, ← leafs_vals hf.2 hl.2.2]
  | [], _ :: _, _, hf, _ => by simp [fits] at hf
  | _ :: _, [], _, hf, _ => by simp [fits] at hf
  | [], [], _ :: _, _, hl => hl.elim
  | _ :: _, _ :: _, [], _, hl => hl.elim
theorem good_bin_agg {o : Oper} {op : BinOp} {t u : TypeId} {x y : Operand} {a b : List AV} {ev : Operand → Value} {K : AV → Upd → Option ρ} {res : ρ} (hT : TOk P T) (ho : o.op = .binOp op t x y u) (h : SR base S B w0 objs loc F w)
    (hx : Val objs loc F B w (.agg a) (ev x)) (hy : Val objs loc F B w (.agg b) (ev y)) (hk : aggK (T.at t).eqk op a b K = some res) : Good P base S B w0 objs loc F w o ev K res := by
  obtain ⟨xs, hx, hxl⟩ := hx
  obtain ⟨ys, hy, hyl⟩ := hy
  unfold aggK at hk
  split at hk
  · rename_i e hc he
    simp only [Bool.and_eq_true, Bool.not_eq_true'] at hc
    obtain ⟨⟨h1, h2⟩, h3⟩ := hc
    obtain ⟨hg, hq⟩ := (hT t).eq (by intro e; rw [e] at h1; simp at h1)
    have hxs : xs = (a.map avVal).toArray := by rw [← leafs_vals h2 hxl]
    have hys : ys = (b.map avVal).toArray := by rw [← leafs_vals h3 hyl]
    have hrun := hq a b e w h2 h3 he
    rw [← hxs, ← hys] at hrun
    have hgd : ∀ op, (eqGuard op t x y (.agg xs) (.agg ys)).run P w = .ok () w := fun op => run_eqGuard_agg w op t x y xs ys hg
    split at hk
    · exact Good.pure (cv := .bool e) h hk (by simp only [execOp, ho, hx, hy, Sem.run_bind, hgd, Result.andThen_ok, run_eql_struct, hrun, Sem.run_pure]) rfl
    · exact Good.pure (cv := .bool (!e)) h hk (by simp only [execOp, ho, hx, hy, Sem.run_bind, hgd, Result.andThen_ok, run_neq_struct, hrun, Sem.run_pure]) rfl
    · cases hk
  · cases hk
theorem good_un {o : Oper} {op : UnOp} {t : TypeId} {x : Operand} {av : AV} {ev : Operand → Value} {K : AV → Upd → Option ρ} {res : ρ} (ho : o.op = .unOp op t x) (h : SR base S B w0 objs loc F w)
    (hx : Val objs loc F B w av (ev x)) (hk : unK op av K = some res) : Good P base S B w0 objs loc F w o ev K res := by
  unfold unK at hk
  split at hk
  · have hx := val_bool hx
    exact Good.pure h hk (by simp [execOp, ho, hx, Op.unary]) rfl
  · have hx := val_int hx
    exact Good.pure h hk (by simp [execOp, ho, hx, Op.unary, Op.intArith]) rfl
  · cases hk
end
end Go.Eng
end

section
namespace Go.Eng
variable [Names]
section
variable {P : Program} {T : TT} {base : Nat} {S : List Nat} {B F : Nat → Prop} {w0 : World} {objs : Upd} {loc : Loc} {w : World} {ρ : Type}
theorem val_agg {cs : List AV} {v : Value} (h : Val objs loc F B w (.agg cs) v) : ∃ vs : Array Value, v = .agg vs ∧ Leafs objs loc F B w cs vs.toList := h
theorem leaf_val {a : AV} {v : Value} (h : Leaf objs loc F B w a v) : Val objs loc F B w a v := by
  cases a <;> first | exact h | exact h.elim | skip
  obtain ⟨rfl, rfl⟩ := h
  exact ⟨#[], rfl, trivial⟩
theorem val1_val {a : AV} {v : Value} (h : Val1 objs loc F B w a v) : Val objs loc F B w a v := by
  cases a <;> first | exact h | exact h.elim
omit [Names] in
theorem at_row {t : Nat} (hT : TOk P T) (h : (T.at t).w ≠ 0) : ∃ d inf, P.underlying t = some d ∧ d.isRow = (T.at t).agg ∧ P.info? t = some inf ∧ inf.size = (T.at t).w := (hT t).row h
omit [Names] in
theorem run_isAgg {t : TypeId} {d : TypeDesc} (h : P.underlying t = some d) (w : World) : (isAgg t).run P w = .ok d.isRow w := by
  unfold isAgg
  rw [Sem.run_bind, run_underlying h w]
  cases d <;> simp
theorem good_field {o : Oper} {t f : Nat} {x : Operand} {av : AV} {ev : Operand → Value} {K : AV → Upd → Option ρ} {res : ρ} (hT : TOk P T) (ho : o.op = .field t x f) (h : SR base S B w0 objs loc F w)
    (hx : Val objs loc F B w av (ev x)) (hk : fieldK T (T.at t).offs f av K = some res) : Good P base S B w0 objs loc F w o ev K res := by
  unfold fieldK at hk
  split at hk
  · rename_i cs off ft hoff
    split at hk
    · rename_i hlen
      simp only [Bool.and_eq_true, Nat.ble_eq] at hlen
      obtain ⟨vs, hv, hl⟩ := val_agg hx
      obtain ⟨fields, fd, hu, hfd, rfl, rfl, inf, hinf, _⟩ := (hT t).offs f off ft hoff
      obtain ⟨d, inf', hd, hrow, hi, hs⟩ := at_row (t := fd.type) hT (by omega)
      have hsz : (sizeOf fd.type).run P w = .ok (T.at fd.type).w w := by simp [sizeOf, typeInfo, hi, hs]
      have hle := hl.len
      split at hk
      · rename_i hagg
        have := (hl.drop fd.offset).take (T.at fd.type).w
        refine Good.pure (cv := .agg (vs.extract fd.offset (fd.offset + (T.at fd.type).w))) h hk ?_ ⟨_, rfl, ?_⟩
        · simp only [execOp, ho, Instr.field, run_underlying hu, hfd, hv, asAgg, part, run_isAgg hd, hrow, hagg, hsz, Sem.run_bind, Sem.run_pure, Result.andThen_ok, if_true]
        · rw [Array.toList_extract]
          simpa [List.extract] using this
      · rename_i c cs' hagg hdrop
        have hd' := hl.drop fd.offset
        rw [hdrop] at hd'
        cases hvd : vs.toList.drop fd.offset with
        | nil => rw [hvd] at hd'; exact hd'.elim
        | cons v vs' =>
          rw [hvd] at hd'
          have hget : vs[fd.offset]? = some v := by
            have := congrArg (·[0]?) hvd
            simpa using this
          refine Good.pure (cv := v) h hk ?_ (leaf_val hd'.2.1)
          simp only [execOp, ho, Instr.field, run_underlying hu, hfd, hv, asAgg, part, run_isAgg hd, hrow, hagg, hget, Sem.run_bind, Sem.run_pure, Result.andThen_ok, Bool.false_eq_true, if_false]
      · cases hk
    · cases hk
  · cases hk
omit [Names] in
theorem run_fieldPlace {a : Addr} {f : Field} {inf : TypeInfo} (hi : P.info? f.type = some inf) (hs : inf.size ≠ 0) (w : World) : (fieldPlace a f).run P w = .ok (a.add f.offset) w := by
  simp [fieldPlace, sizeOf, typeInfo, hi, hs]
omit [Names] in
theorem add_plain (b o n : Nat) : (⟨b, o, none⟩ : Addr).add n = ⟨b, o + n, none⟩ := Addr.add_mid b o n
omit [Names] in
theorem ob_get {get : Get} {objs : Upd} {r : Ref} (h : get r.s = look objs r.s) : Get.ob get r = Get.ob (look objs) r := by
  unfold Get.ob; rw [h]
omit [Names] in
theorem nlOf_some {get : Get} {objs : Upd} {r : Ref} {k : Nat} {i : Int} {off : Nat} {ol : OL} (hk : nlOf get r k i off = some ol) (hr : get r.s = look objs r.s) (hs : get SHG = look objs SHG) :
    k = (look objs SHG).g ∧ ∃ z e t xs, Get.ob (look objs) r = .lst z e t xs ∧ t.getO (Ty.rd xs i) off = some ol := by
  unfold nlOf at hk
  rw [hs, ob_get hr] at hk
  split at hk
  case h_2 => cases hk
  rename_i hb
  refine ⟨(beq_true.1 hb).symm, ?_⟩
  split at hk
  case h_2 => cases hk
  rename_i z e t xs hob
  exact ⟨z, e, t, xs, hob, hk⟩
theorem good_fieldAddr {o : Oper} {t f : Nat} {x : Operand} {av : AV} {ev : Operand → Value} {K : AV → Upd → Option ρ} {res : ρ} (hT : TOk P T) (ho : o.op = .fieldAddr t x f) (h : SR base S B w0 objs loc F w)
    (hx : Val objs loc F B w av (ev x)) {get : Get} (hg : ∀ s ∈ AV.slots av, get s = look objs s)
    (hk : fieldAddrK get (T.at t).offs f av K = some res) : Good P base S B w0 objs loc F w o ev K res := by
  unfold fieldAddrK at hk
  split at hk
  · rename_i off' ft hoff
    obtain ⟨fields, fd, hu, hfd, rfl, rfl, inf, hinf, hne⟩ := (hT t).offs f off' ft hoff
    have run : ∀ b o', ev x = .pointer (some ⟨b, o', none⟩) → (execOp ev o).run P w = .ok (.value (.pointer (some ⟨b, o' + fd.offset, none⟩))) w := by
      intro b o' he
      simp only [execOp, ho, Instr.fieldAt, run_underlying hu, hfd, he, Instr.sureAddr, run_fieldPlace hinf hne, Sem.run_bind, Sem.run_pure, Result.andThen_ok, add_plain]
    split at hk
    · rename_i r off
      split at hk
      case h_2 => cases hk
      rename_i hlv
      rw [ob_get (hg r.s (by simp [AV.slots]))] at hlv
      have hx' : Leaf objs loc F B w (.ptr r off) (ev x) := hx
      cases hob : Get.ob (look objs) r with
      | gone => rw [hob] at hlv; simp [live] at hlv
      | lst => exact (RS.found hx'.2 hob (by simp)).elim
      | box cs =>
        obtain ⟨b, hb, hv⟩ := RS.found hx'.2 hob (by simp)
        refine Good.pure h hk (run b off hv) ?_
        refine ⟨rfl, .inr ⟨(ob_some hob (by simp)).1, r.v, _, (ob_some hob (by simp)).2, .inr ⟨rfl, b, hb, rfl⟩⟩⟩
    · rename_i r i off
      split at hk
      case h_2 => cases hk
      rename_i hlv
      rw [ob_get (hg r.s (by simp [AV.slots]))] at hlv
      have hx' : Leaf objs loc F B w (.ep r i off) (ev x) := hx
      cases hob : Get.ob (look objs) r with
      | gone => rw [hob] at hlv; simp [live] at hlv
      | box cs =>
        obtain ⟨b, hb, h0, hv⟩ := RS.found hx'.2 hob (by simp)
        refine Good.pure h hk (run b _ hv) ?_
        refine ⟨rfl, .inr ⟨(ob_some hob (by simp)).1, r.v, _, (ob_some hob (by simp)).2, .inr ⟨rfl, b, hb, h0, ?_⟩⟩⟩
        congr 3
        omega
      | lst z e t xs =>
        obtain ⟨b, hb, h0, h1, hv⟩ := RS.found hx'.2 hob (by simp)
        refine Good.pure h hk (run b _ hv) ?_
        refine ⟨rfl, .inr ⟨(ob_some hob (by simp)).1, r.v, _, (ob_some hob (by simp)).2, .inr ⟨rfl, b, hb, h0, h1, ?_⟩⟩⟩
        rw [Nat.add_assoc]
    · rename_i b ty xs i off
      obtain ⟨h0, h1, bl, o', hv, hF, hlt, hr⟩ := (show Leaf objs loc F B w (.ip b ty xs i off) (ev x) from hx)
      refine Good.pure h hk (run bl _ hv) ⟨h0, h1, bl, o', ?_, hF, hlt, hr⟩
      rw [Nat.add_assoc]
    · rename_i r k i o1 j off
      split at hk
      case h_2 => cases hk
      rename_i ol hnl
      obtain ⟨hk1, z, e, t, xs, hob, hgo⟩ := nlOf_some hnl (hg r.s (by simp [AV.slots])) (hg SHG (by simp [AV.slots]))
      have hx' : Leaf objs loc F B w (.np r k i o1 j off) (ev x) := hx
      rcases hx'.2 with h2 | ⟨_, hrs⟩
      · omega
      obtain ⟨h0, h1, h2, e', u, b, bl, o2, n, c, ht, hb, hcell, hj, hv⟩ := RS.found hrs hob (by simp)
      refine Good.pure h hk (run bl _ hv) ⟨rfl, .inr ⟨hk1, .inr ⟨(ob_some hob (by simp)).1, r.v, _, (ob_some hob (by simp)).2, .inr ⟨rfl, h0, h1, h2, e', u, b, bl, o2, n, c, ht, hb, hcell, hj, ?_⟩⟩⟩⟩
      rw [Nat.add_assoc]
    · cases hk
  · cases hk
theorem good_nil {o : Oper} {x : Operand} {av : AV} {ev : Operand → Value} {K : AV → Upd → Option ρ} {res : ρ} (ho : o.op = .nilCheck x) (h : SR base S B w0 objs loc F w)
    (hx : Val objs loc F B w av (ev x)) {get : Get} (hg : ∀ s ∈ AV.slots av, get s = look objs s)
    (hk : nilK get av K = some res) : Good P base S B w0 objs loc F w o ev K res := by
  unfold nilK at hk
  have run : ∀ a, ev x = .pointer (some a) → (execOp ev o).run P w = .ok (.value (.pointer (some a))) w := by
    intro a he
    simp only [execOp, ho, he, Sem.run_pure]
  split at hk
  · rename_i r off
    split at hk
    case h_2 => cases hk
    rename_i hlv
    rw [ob_get (hg r.s (by simp [AV.slots]))] at hlv
    have hx' : Leaf objs loc F B w (.ptr r off) (ev x) := hx
    cases hob : Get.ob (look objs) r with
    | gone => rw [hob] at hlv; simp [live] at hlv
    | lst => exact (RS.found hx'.2 hob (by simp)).elim
    | box cs =>
      obtain ⟨b, hb, hv⟩ := RS.found hx'.2 hob (by simp)
      exact Good.pure h hk (run _ hv) (hv ▸ hx)
  · rename_i r i off
    split at hk
    case h_2 => cases hk
    rename_i hlv
    rw [ob_get (hg r.s (by simp [AV.slots]))] at hlv
    have hx' : Leaf objs loc F B w (.ep r i off) (ev x) := hx
    cases hob : Get.ob (look objs) r with
    | gone => rw [hob] at hlv; simp [live] at hlv
    | box cs =>
      obtain ⟨b, hb, h0, hv⟩ := RS.found hx'.2 hob (by simp)
      exact Good.pure h hk (run _ hv) (hv ▸ hx)
    | lst z e t xs =>
      obtain ⟨b, hb, h0, h1, hv⟩ := RS.found hx'.2 hob (by simp)
      exact Good.pure h hk (run _ hv) (hv ▸ hx)
  · rename_i b ty xs i off
    obtain ⟨h0, h1, bl, o', hv, hF, hlt, hr⟩ := (show Leaf objs loc F B w (.ip b ty xs i off) (ev x) from hx)
    exact Good.pure h hk (run _ hv) (hv ▸ hx)
  · cases hk
theorem good_extract {o : Oper} {x : Operand} {i : Nat} {av : AV} {ev : Operand → Value} {K : AV → Upd → Option ρ} {res : ρ} (ho : o.op = .extract x i) (h : SR base S B w0 objs loc F w)
    (hx : Val objs loc F B w av (ev x)) (hk : extractK av i K = some res) : Good P base S B w0 objs loc F w o ev K res := by
  unfold extractK at hk
  split at hk
  · rename_i vs
    split at hk
    · rename_i v hv
      rw [nth?_eq] at hv
      obtain ⟨us, he, hl⟩ := hx
      have : ∀ {as : List AV} {vs : List Value} {n : Nat} {a : AV}, Val1s objs loc F B w as vs → as[n]? = some a → ∃ v, vs[n]? = some v ∧ Val1 objs loc F B w a v := by
        intro as
        induction as with
        | nil => intro vs n a _ h; simp at h
        | cons b as ih =>
          intro vs n a hl hn
          cases vs with
          | nil => exact hl.elim
          | cons u vs =>
            cases n with
            | zero => simp at hn; subst hn; exact ⟨u, rfl, hl.1⟩
            | succ n => simpa using ih hl.2 (by simpa using hn)
      obtain ⟨u, hu, hval⟩ := this hl hv
      refine Good.pure h hk ?_ (val1_val hval)
      rw [Array.getElem?_toList] at hu
      simp only [execOp, ho, Instr.extract, he, hu, Sem.run_bind, Sem.run_pure, Result.andThen_ok]
    · cases hk
  · cases hk
theorem asInt_val {k : IntKind} {n : Int} {v : Value} (h : Val objs loc F B w (.int k n) v) : (asIntOf v).run P w = .ok (k, n) w := by
  rw [val_int h]; rfl
theorem good_idx {o : Oper} {t : Nat} {x i : Operand} {ax ai : AV} {ev : Operand → Value} {K : AV → Upd → Option ρ} {res : ρ} (hT : TOk P T) (ho : o.op = .index t x i) (h : SR base S B w0 objs loc F w)
    (hx : Val objs loc F B w ax (ev x)) (hi : Val objs loc F B w ai (ev i)) (hk : idxK (T.at t).kind ax ai K = some res) : Good P base S B w0 objs loc F w o ev K res := by
  unfold idxK at hk
  split at hk
  · rename_i s k n hkind
    split at hk
    · rename_i hb
      have hx := val_str hx
      have hu := (hT t).str hkind
      have hlt : n.toNat < s.size := by omega
      refine Good.pure h hk ?_ rfl
      have hget : s[n.toNat]? = some (s[n.toNat]'hlt) := getElem?_pos s n.toNat hlt
      simp only [execOp, ho, Instr.index, asInt_val hi, hx, run_underlying hu, Sem.run_bind, Sem.run_pure, Result.andThen_ok, hb.1, if_true, hget, bt, dif_pos hlt]
    · cases hk
  · cases hk
end
end Go.Eng
end

section
namespace Go.Eng
variable [Names]
section
variable {P : Program} {T : TT} {base : Nat} {S : List Nat} {B F : Nat → Prop} {w0 : World} {objs : Upd} {loc : Loc} {w : World} {ρ : Type}
theorem view_at {r : Ref} {z : Bool} {e : Nat} {t : Ty} {xs : List t.den} {vw : View} {v : Value} (h : SR base S B w0 objs loc F w) (ho : Get.ob (look objs) r = .lst z e t xs)
    (hv : viewOk (loc r.s r.j) t.w xs.length vw v) : ∃ a n c, v = .slice a n c ∧ (n : Int) = vw.len xs.length ∧ vw.lo + n ≤ xs.length ∧ n ≤ c ∧ (0 < n → ∃ b, (loc r.s r.j).blk = some b ∧ a = some ⟨b, (loc r.s r.j).off + vw.lo * t.w, none⟩) ∧
      ∀ lo hi, vw = .sub lo hi → 0 ≤ lo := by
  obtain ⟨hg, hj⟩ := ob_some ho (by simp)
  have hok : LstOk F w (loc r.s r.j) z e t xs := h.obs r.s r.j r.v _ hj
  unfold LstOk LstW at hok
  cases hb : (loc r.s r.j).blk with
  | none =>
    rw [hb] at hok
    obtain ⟨rfl, hc, _⟩ := hok
    cases vw with
    | whole => exact ⟨none, 0, 0, by rw [hv]; simp [hdr, hb, hc], rfl, Nat.le_refl _, Nat.le_refl _, fun h => absurd h (by omega), fun _ _ e => by cases e⟩
    | sub lo hi =>
      obtain ⟨h0, h1, h2, h3, o, rfl, h4⟩ := hv
      simp only [List.length_nil] at h2
      refine ⟨_, _, _, rfl, ?_, ?_, by omega, fun hn => by omega, fun lo' hi' e => ?_⟩
      · simp only [View.len]; omega
      · simp only [View.lo, List.length_nil]; omega
      · cases e; exact h0
  | some b =>
    rw [hb] at hok
    obtain ⟨vs, fr, Ss, hh, _, _, hcap, _⟩ := hok
    cases vw with
    | whole => exact ⟨some ⟨b, (loc r.s r.j).off, none⟩, xs.length, (loc r.s r.j).cap, by rw [hv]; simp [hdr, hb], rfl, by simp [View.lo], hcap, fun _ => ⟨b, rfl, by simp [View.lo]⟩, fun _ _ e => by cases e⟩
    | sub lo hi =>
      obtain ⟨h0, h1, h2, h3, o, rfl, h4⟩ := hv
      refine ⟨_, _, _, rfl, ?_, ?_, by omega, fun hn => ⟨b, rfl, ?_⟩, fun lo' hi' e => ?_⟩
      · simp only [View.len]; omega
      · simp only [View.lo]; omega
      · rw [h4 (by omega), hb]; rfl
      · cases e; exact h0
theorem LstOk.cap_le {l : LV} {z : Bool} {e : Nat} {t : Ty} {xs : List t.den} (h : LstOk F w l z e t xs) : xs.length ≤ l.cap := by
  unfold LstOk LstW at h
  cases hb : l.blk with
  | none => rw [hb] at h; obtain ⟨rfl, hc, _⟩ := h; simp
  | some b => rw [hb] at h; obtain ⟨_, _, _, _, _, _, hc, _⟩ := h; exact hc
omit [Names] in
theorem Ty.w_erase : ∀ t : Ty, t.erase.w = t.w
  | .list _ => rfl
  | .ols _ _ => rfl
  | .olq _ _ => rfl
  | .pair a b => by simp [Ty.erase, Ty.w, w_erase a, w_erase b]
  | .int _ => rfl
  | .bool => rfl
  | .str => rfl
  | .unit => rfl
  | .nm => rfl
theorem TRep.getO : ∀ {t : Ty} {x : t.den} {cs : List Value} {S0 : List Nat} {off : Nat} {ol : OL}, TRep F w t x cs S0 → t.getO x off = some ol →
    t.olsTy off = some (ol.e, ol.u) ∧ ∃ (l : LV) (S1 S2 : List Nat), cs[off]? = some (hdr l ol.ys.length) ∧ S0 = S1 ++ l.all ++ S2 ∧ LstW (TRep F w ol.u) ol.u.w w l false ol.e ol.ys ∧
      ∀ (F' : Nat → Prop) (w' : World) (l' : LV) (ys' : List ol.u.den), (∀ b, F b → F' b) → Same F w w' → (∀ b ∈ S1 ++ S2, w'.heap[b]? = w.heap[b]?) → l'.core = l.core → ys'.length = ol.ys.length → LstW (TRep F' w' ol.u) ol.u.w w' l' false ol.e ys' →
        TRep F' w' t (t.putO x off ⟨ol.e, ol.u, ys'⟩) cs (S1 ++ l'.all ++ S2)
  | .ols e u, ys, cs, S0, off, ol, h, hg => by
    cases off with
    | succ n => simp [Ty.getO] at hg
    | zero =>
      simp only [Ty.getO, Option.some.injEq] at hg
      subst hg
      obtain ⟨l, rfl, rfl, hl⟩ := h
      refine ⟨rfl, l, [], [], rfl, by simp, hl, fun F' w' l' ys' hF hs hb hc hn hl' => ⟨l', ?_, by simp, ?_⟩⟩
      · obtain ⟨c1, c2, c3⟩ := LV.core_eq hc
        have e1 : (Ty.ols e u).putO ys 0 ⟨e, u, ys'⟩ = ys' := by simp [Ty.putO]
        rw [e1]
        simp only [hdr, c1, c2, c3]
        rw [show ys'.length = ys.length from hn]
      · have e1 : (Ty.ols e u).putO ys 0 ⟨e, u, ys'⟩ = ys' := by simp [Ty.putO]
        rw [e1]
        exact hl'
  | .pair a b, x, cs, S0, off, ol, h, hg => by
    obtain ⟨c, d, S1, S2, rfl, rfl, h1, h2⟩ := h
    have hc := h1.len
    simp only [Ty.getO] at hg
    simp only [Ty.olsTy]
    split at hg
    · rename_i hlt
      rw [if_pos hlt]
      obtain ⟨k1, l, T1, T2, k2, k3, k4, k5⟩ := TRep.getO h1 hg
      refine ⟨k1, l, T1, T2 ++ S2, by rw [List.getElem?_append_left (by omega)]; exact k2, by rw [k3]; simp only [List.append_assoc], k4, fun F' w' l' ys' hF hs hb hco hn hl' => ?_⟩
      have e1 : (Ty.pair a b).putO x off ⟨ol.e, ol.u, ys'⟩ = (a.putO x.1 off ⟨ol.e, ol.u, ys'⟩, x.2) := by simp only [Ty.putO]; rw [if_pos hlt]
      rw [e1]
      exact ⟨c, d, T1 ++ l'.all ++ T2, S2, rfl, by simp only [List.append_assoc], k5 F' w' l' ys' hF hs (fun b hb' => hb b (by simp only [List.mem_append] at hb' ⊢; rcases hb' with h | h <;> simp [h])) hco hn hl', h2.mono hF hs (fun b hb' => hb b (by simp [hb']))⟩
    · rename_i hlt
      rw [if_neg hlt]
      obtain ⟨k1, l, T1, T2, k2, k3, k4, k5⟩ := TRep.getO h2 hg
      refine ⟨k1, l, S1 ++ T1, T2, by rw [List.getElem?_append_right (by omega), hc]; exact k2, by rw [k3]; simp only [List.append_assoc], k4, fun F' w' l' ys' hF hs hb hco hn hl' => ?_⟩
      have e1 : (Ty.pair a b).putO x off ⟨ol.e, ol.u, ys'⟩ = (x.1, b.putO x.2 (off - a.w) ⟨ol.e, ol.u, ys'⟩) := by simp only [Ty.putO]; rw [if_neg hlt]
      rw [e1]
      exact ⟨c, d, S1, T1 ++ l'.all ++ T2, rfl, by simp only [List.append_assoc], h1.mono hF hs (fun b hb' => hb b (by simp [hb'])), k5 F' w' l' ys' hF hs (fun b hb' => hb b (by simp only [List.mem_append] at hb' ⊢; rcases hb' with h | h <;> simp [h])) hco hn hl'⟩
  | .int _, _, _, _, _, _, _, hg => by simp [Ty.getO] at hg
  | .bool, _, _, _, _, _, _, hg => by simp [Ty.getO] at hg
  | .str, _, _, _, _, _, _, hg => by simp [Ty.getO] at hg
  | .list _, _, _, _, _, _, _, hg => by simp [Ty.getO] at hg
  | .unit, _, _, _, _, _, _, hg => by simp [Ty.getO] at hg
  | .nm, _, _, _, _, _, _, hg => by simp [Ty.getO] at hg
  | .olq _ _, _, _, _, _, _, _, hg => by simp [Ty.getO] at hg
omit [Names] in
theorem Ty.olsTy_lt : ∀ {t : Ty} {off : Nat}, (t.olsTy off).isSome = true → off < t.w
  | .ols _ _, 0, _ => by simp [Ty.w]
  | .ols _ _, n + 1, h => by simp [Ty.olsTy] at h
  | .pair a b, off, h => by
    simp only [Ty.olsTy] at h
    simp only [Ty.w]
    split at h
    · omega
    · have := Ty.olsTy_lt h; omega
  | .int _, _, h => by simp [Ty.olsTy] at h
  | .bool, _, h => by simp [Ty.olsTy] at h
  | .str, _, h => by simp [Ty.olsTy] at h
  | .list _, _, h => by simp [Ty.olsTy] at h
  | .unit, _, h => by simp [Ty.olsTy] at h
  | .nm, _, h => by simp [Ty.olsTy] at h
  | .olq _ _, _, h => by simp [Ty.olsTy] at h
omit [Names] in
theorem rd_at {t : Ty} {xs : List t.den} {i : Int} (h : i.toNat < xs.length) : Ty.rd xs i = xs[i.toNat] := by simp [Ty.rd, List.getD, List.getElem?_eq_getElem h]
theorem LstOk.row {l : LV} {z : Bool} {e : Nat} {t : Ty} {xs : List t.den} {b : Nat} (h : LstOk F w l z e t xs) (hb : l.blk = some b) {i : Nat} (hi : i < xs.length) :
    ∃ rs S0, rs.length = t.w ∧ (∀ j, j < t.w → w.cell? ⟨b, l.off + i * t.w + j, none⟩ = rs[j]?) ∧ TRep F w t xs[i] rs S0 ∧ ∃ S1 S2, l.sub = S1 ++ S0 ++ S2 := by
  unfold LstOk LstW at h
  rw [hb] at h
  obtain ⟨vs, fr, Ss, hh, _, _, _, _, _, hsub, _, hlen, hr⟩ := h
  have hi' : i < Ss.length := by omega
  obtain ⟨rs, k1, k2, k3⟩ := hr i _ _ (List.getElem?_eq_getElem hi) (List.getElem?_eq_getElem hi')
  refine ⟨rs, _, k1, fun j hj => ?_, k3, (Ss.take i).flatten, (Ss.drop (i + 1)).flatten, ?_⟩
  · rw [cell_heap hh, ← k2 j hj, List.getElem?_drop, Array.getElem?_toList]
    congr 1
    omega
  · rw [hsub]
    conv => lhs; rw [← List.take_append_drop i Ss, List.flatten_append, List.drop_eq_getElem_cons hi', List.flatten_cons]
    rw [List.append_assoc]
theorem nl_found {r : Ref} {k : Nat} {i : Int} {off : Nat} {ol : OL} {v : Value} {get : Get} (h : SR base S B w0 objs loc F w) (hv : Leaf objs loc F B w (.nl r k i off) v) (hg : ∀ s ∈ AV.slots (.nl r k i off), get s = look objs s) (hk : nlOf get r k i off = some ol) :
    k = (look objs SHG).g ∧ ∃ z e t xs b l, Get.ob (look objs) r = .lst z e t xs ∧ 0 ≤ i ∧ i < (xs.length : Int) ∧ t.getO (Ty.rd xs i) off = some ol ∧ t.olsTy off = some (ol.e, ol.u) ∧ (loc r.s r.j).blk = some b ∧ w.cell? ⟨b, (loc r.s r.j).off + i.toNat * t.w + off, none⟩ = some v ∧
      v = hdr l ol.ys.length ∧ LstW (TRep F w ol.u) ol.u.w w l false ol.e ol.ys ∧ ∃ S1 S2, (loc r.s r.j).sub = S1 ++ l.all ++ S2 := by
  obtain ⟨hk1, z, e, t, xs, hob, hgo⟩ := nlOf_some hk (hg r.s (by simp [AV.slots])) (hg SHG (by simp [AV.slots]))
  rcases hv.2 with h2 | ⟨_, hrs⟩
  · omega
  obtain ⟨h0, h1, h2, b, hb, hcell⟩ := RS.found hrs hob (by simp)
  have hok : LstOk F w (loc r.s r.j) z e t xs := h.obs _ _ _ _ (ob_some hob (by simp)).2
  have hi : i.toNat < xs.length := by omega
  obtain ⟨rs, S0, r1, r2, r3, S1, S2, r4⟩ := hok.row hb hi
  rw [← rd_at hi] at r3
  obtain ⟨g1, l, T1, T2, g2, g3, g4, _⟩ := r3.getO hgo
  have := r2 off (Ty.olsTy_lt h2)
  rw [hcell, g2, Option.some.injEq] at this
  exact ⟨hk1, z, e, t, xs, b, l, hob, h0, h1, hgo, g1, hb, hcell, this, g4, S1 ++ T1, T2 ++ S2, by rw [r4, g3]; simp only [List.append_assoc]⟩
theorem np_found {r : Ref} {k : Nat} {i j : Int} {off off2 : Nat} {ol : OL} {v : Value} {get : Get} (h : SR base S B w0 objs loc F w) (hv : Leaf objs loc F B w (.np r k i off j off2) v) (hg : ∀ s ∈ AV.slots (.np r k i off j off2), get s = look objs s) (hk : nlOf get r k i off = some ol) :
    k = (look objs SHG).g ∧ ∃ z e t xs b l bl, Get.ob (look objs) r = .lst z e t xs ∧ 0 ≤ i ∧ i < (xs.length : Int) ∧ t.getO (Ty.rd xs i) off = some ol ∧ t.olsTy off = some (ol.e, ol.u) ∧ (loc r.s r.j).blk = some b ∧ w.cell? ⟨b, (loc r.s r.j).off + i.toNat * t.w + off, none⟩ = some (hdr l ol.ys.length) ∧
      LstW (TRep F w ol.u) ol.u.w w l false ol.e ol.ys ∧ (∃ S1 S2, (loc r.s r.j).sub = S1 ++ l.all ++ S2) ∧ 0 ≤ j ∧ j < (ol.ys.length : Int) ∧ l.blk = some bl ∧ v = .pointer (some ⟨bl, l.off + j.toNat * ol.u.w + off2, none⟩) := by
  obtain ⟨hk1, z, e, t, xs, hob, hgo⟩ := nlOf_some hk (hg r.s (by simp [AV.slots])) (hg SHG (by simp [AV.slots]))
  rcases hv.2 with h2 | ⟨_, hrs⟩
  · omega
  obtain ⟨h0, h1, hj0, e', u, b, bl, o, n, c, ht, hb, hcell, hj, hv⟩ := RS.found hrs hob (by simp)
  have hok : LstOk F w (loc r.s r.j) z e t xs := h.obs _ _ _ _ (ob_some hob (by simp)).2
  have hi : i.toNat < xs.length := by omega
  obtain ⟨rs, S0, r1, r2, r3, S1, S2, r4⟩ := hok.row hb hi
  rw [← rd_at hi] at r3
  obtain ⟨g1, l, T1, T2, g2, g3, g4, _⟩ := r3.getO hgo
  have hh := r2 off (Ty.olsTy_lt (by rw [ht]; rfl))
  rw [hcell, g2, Option.some.injEq] at hh
  rw [ht] at g1
  simp only [Option.some.injEq, Prod.mk.injEq] at g1
  obtain ⟨rfl, rfl⟩ := g1
  simp only [hdr, Value.slice.injEq] at hh
  obtain ⟨e1, e2, e3⟩ := hh
  cases hlb : l.blk with
  | none => rw [hlb] at e1; simp at e1
  | some bl' =>
    rw [hlb] at e1
    simp only [Option.map_some, Option.some.injEq, Addr.mk.injEq, and_true] at e1
    obtain ⟨rfl, rfl⟩ := e1
    refine ⟨hk1, z, e, t, xs, b, l, bl, hob, h0, h1, hgo, ht, hb, ?_, g4, ⟨S1 ++ T1, T2 ++ S2, by rw [r4, g3]; simp only [List.append_assoc]⟩, hj0, by omega, hlb, hv⟩
    rw [hcell]
    simp [hdr, hlb, e2, e3]
theorem good_idxAddr {o : Oper} {t : Nat} {x i : Operand} {ax ai : AV} {ev : Operand → Value} {K : AV → Upd → Option ρ} {res : ρ} (hT : TOk P T) (ho : o.op = .indexAddr t x i) (h : SR base S B w0 objs loc F w)
    (hx : Val objs loc F B w ax (ev x)) (hi : Val objs loc F B w ai (ev i)) {get : Get} (hg : ∀ s ∈ AV.slots ax, get s = look objs s) (hk : idxAddrK get (T.at t).kind ax ai K = some res) : Good P base S B w0 objs loc F w o ev K res := by
  unfold idxAddrK at hk
  split at hk
  case h_3 => cases hk
  case h_2 =>
    rename_i e m k n hkind
    obtain ⟨hu, inf, hinf, hsz⟩ := (hT t).arr e m hkind
    have hi := val_int hi
    split at hk
    case h_2 => cases hk
    rename_i r off
    rw [ob_get (hg r.s (by simp [AV.slots]))] at hk
    split at hk
    case h_2 => cases hk
    rename_i cs hob
    split at hk
    case isFalse => cases hk
    rename_i hb
    obtain ⟨b, hbl, hv⟩ := RS.found (show Leaf objs loc F B w (.ptr r off) (ev x) from hx).2 hob (by simp)
    refine Good.pure h hk (cv := .pointer (some ⟨b, off + n.toNat, none⟩)) ?_ ⟨rfl, .inr ⟨(ob_some hob (by simp)).1, r.v, _, (ob_some hob (by simp)).2, .inr ⟨rfl, b, hbl, hb.1, rfl⟩⟩⟩
    simp only [execOp, ho, Instr.indexAt, hi, hv, asIntOf, run_underlying hu, Instr.sureAddr, Sem.run_bind, Sem.run_pure, Result.andThen_ok, hb.1, hb.2, and_self, if_true, sizeOf, typeInfo, run_program, hinf, hsz]
    rw [add_plain, Nat.mul_one]
  rename_i e ty k n hkind
  obtain ⟨hu, inf, zv, hinf, hsz, hpos, hby, hz, hzs, _⟩ := (hT t).slice e ty hkind
  have hi := val_int hi
  have run : ∀ (a : Addr) (len c : Nat), ev x = .slice (some a) len c → 0 ≤ n → n < (len : Int) → (execOp ev o).run P w = .ok (.value (.pointer (some (a.add (n.toNat * ty.w))))) w := by
    intro a len c he h0 h1
    simp only [execOp, ho, Instr.indexAt, hi, he, asIntOf, run_underlying hu, Sem.run_bind, Sem.run_pure, Result.andThen_ok, h0, h1, and_self, if_true, sizeOf, typeInfo, run_program, hinf, hsz]
  split at hk
  · rename_i r vw
    rw [ob_get (hg r.s (by simp [AV.slots]))] at hk
    split at hk
    case h_2 => cases hk
    rename_i z e' t' xs hob
    split at hk
    case isFalse => cases hk
    rename_i ht
    have hx' : Leaf objs loc F B w (.ol r vw) (ev x) := hx
    obtain ⟨a, m, c, he, hm, hlen, hmc, hadr, hlo0⟩ := view_at h hob (RS.found hx'.2 hob (by simp))
    have fin : ∀ q : Int, 0 ≤ n → n < (m : Int) → q = vw.lo + n → K (.ep r q 0) [] = some res → Good P base S B w0 objs loc F w o ev K res := by
      intro q h0 h1 hq hk
      obtain ⟨b, hb, ha⟩ := hadr (by omega)
      subst ha
      refine Good.pure h hk (run _ m c he h0 h1) ⟨rfl, .inr ⟨(ob_some hob (by simp)).1, r.v, _, (ob_some hob (by simp)).2, .inr ⟨rfl, b, hb, by omega, by omega, ?_⟩⟩⟩
      rw [add_plain, ht, hq, Nat.add_assoc, ← Nat.add_mul, Nat.add_zero]
      congr 5
      omega
    split at hk
    · split at hk
      · rename_i hb
        exact fin n hb.1 (by simp only [View.len] at hm; omega) (by simp [View.lo]) hk
      · cases hk
    · rename_i lo hi'
      have := hlo0 lo hi' rfl
      split at hk
      · rename_i hb
        refine fin (lo + n) hb.1 (by simp only [View.len] at hm; omega) ?_ hk
        simp only [View.lo]
        omega
      · cases hk
  · rename_i b t' xs
    split at hk
    case isFalse => cases hk
    rename_i ht; subst ht
    split at hk
    case isFalse => cases hk
    rename_i hb
    have hx' : IRep (fun x => F x ∨ (b = true ∧ B x)) w (.list ty.erase) xs [ev x] := hx
    obtain ⟨a, m, c, he, hm, hmc, hadr⟩ := hx'
    cases he' : ev x <;> rw [he'] at he <;> simp at he
    obtain ⟨rfl, rfl, rfl⟩ := he
    obtain ⟨bl, o', rfl, hF, hlt, hr⟩ := hadr (by omega)
    refine Good.pure h hk (run _ _ _ he' hb.1 (by omega)) ⟨hb.1, hb.2, bl, o', ?_, hF, hlt, hr⟩
    rw [add_plain, Nat.add_zero, Ty.w_erase]
  · rename_i r k i off
    split at hk
    case h_2 => cases hk
    rename_i ol hnl
    split at hk
    case isFalse => cases hk
    rename_i hwu
    split at hk
    case isFalse => cases hk
    rename_i hb
    obtain ⟨hk1, z, e2, t, xs, b, l, hob, h0, h1, hgo, hot, hbl, hcell, hv, hl, _⟩ := nl_found h (show Leaf objs loc F B w (.nl r k i off) (ev x) from hx) hg hnl
    cases hlb : l.blk with
    | none =>
      unfold LstW at hl
      rw [hlb] at hl
      rw [hl.1] at hb
      simp at hb
      omega
    | some bl =>
      have hv' : ev x = .slice (some ⟨bl, l.off, none⟩) ol.ys.length l.cap := by rw [hv]; simp [hdr, hlb]
      refine Good.pure h hk (run _ _ _ hv' hb.1 hb.2) ⟨rfl, .inr ⟨hk1, .inr ⟨(ob_some hob (by simp)).1, r.v, _, (ob_some hob (by simp)).2, .inr ⟨rfl, h0, h1, hb.1, ol.e, ol.u, b, bl, l.off, ol.ys.length, l.cap, hot, hbl, ?_, hb.2, ?_⟩⟩⟩⟩
      · rw [hcell, hv']
      · rw [add_plain, Nat.add_zero, hwu]
  · cases hk
omit [Names] in
theorem run_bound {x : Value} {k : IntKind} {n : Int} {y : Nat} {code : BoundsCode} (hx : x = .int k n) (h0 : 0 ≤ n) (h1 : n ≤ (y : Int)) (w : World) : (Instr.sliceBound x y code).run P w = .ok n.toNat w := by
  have : 0 ≤ n ∧ n ≤ (y : Int) := ⟨h0, h1⟩
  simp only [Instr.sliceBound, hx, asIntOf, Sem.run_bind, Sem.run_pure, Result.andThen_ok, this, and_self, if_true]
theorem sliceIdx_ok {K : Int → Int → Option ρ} {res : ρ} {len bound : Int} {lo hi : Option Operand} {eA : Operand → AV} {ev : Operand → Value} (hlo : ∀ x, lo = some x → Val objs loc F B w (eA x) (ev x)) (hhi : ∀ x, hi = some x → Val objs loc F B w (eA x) (ev x))
    (hl : 0 ≤ len) (hlb : len ≤ bound) (hk : sliceIdx len bound (lo.map eA) (hi.map eA) K = some res) : ∃ l h, K l h = some res ∧ 0 ≤ l ∧ l ≤ h ∧ h ≤ bound ∧
      ∀ (isSlice : Bool) (cap : Nat), bound ≤ cap → (Instr.sliceBounds isSlice len.toNat cap (lo.map ev) (hi.map ev) none).run P w = .ok (l.toNat, h.toNat, cap) w := by
  cases lo with
  | none =>
    cases hi with
    | none => exact ⟨0, len, hk, by omega, hl, by omega, fun s cap hc => by simp [Instr.sliceBounds]⟩
    | some x =>
      have hv := hhi x rfl
      simp only [Option.map_none, Option.map_some] at hk ⊢
      cases hx : eA x with
      | int k h =>
        rw [hx] at hk hv
        have hv := val_int hv
        simp only [sliceIdx] at hk
        split at hk
        · rename_i hb
          refine ⟨0, h, hk, by omega, hb.1, hb.2, fun s cap hc => ?_⟩
          simp only [Instr.sliceBounds, Sem.run_bind, Sem.run_pure, Result.andThen_ok, run_bound hv hb.1 (show h ≤ (cap : Int) by omega), Int.toNat_zero]
        · cases hk
      | _ => rw [hx] at hk; simp [sliceIdx] at hk
  | some y =>
    have hv' := hlo y rfl
    cases hi with
    | none =>
      simp only [Option.map_none, Option.map_some] at hk ⊢
      cases hy : eA y with
      | int k l =>
        rw [hy] at hk hv'
        have hv' := val_int hv'
        simp only [sliceIdx] at hk
        split at hk
        · rename_i hb
          refine ⟨l, len, hk, hb.1, hb.2, by omega, fun s cap hc => ?_⟩
          simp only [Instr.sliceBounds, Sem.run_bind, Sem.run_pure, Result.andThen_ok, run_bound hv' hb.1 (show l ≤ (len.toNat : Int) by omega)]
        · cases hk
      | _ => rw [hy] at hk; simp [sliceIdx] at hk
    | some x =>
      have hv := hhi x rfl
      simp only [Option.map_some] at hk ⊢
      cases hy : eA y with
      | int kl l =>
        rw [hy] at hk hv'
        have hv' := val_int hv'
        cases hx : eA x with
        | int kh h =>
          rw [hx] at hk hv
          have hv := val_int hv
          simp only [sliceIdx] at hk
          split at hk
          · rename_i hb
            split at hk
            · rename_i hb'
              refine ⟨l, h, hk, hb'.1, hb'.2, hb.2, fun s cap hc => ?_⟩
              simp only [Instr.sliceBounds, Sem.run_bind, Sem.run_pure, Result.andThen_ok, run_bound hv hb.1 (show h ≤ (cap : Int) by omega), run_bound hv' hb'.1 (show l ≤ (h.toNat : Int) by omega)]
            · cases hk
          · cases hk
        | _ => rw [hx] at hk; simp [sliceIdx] at hk
      | _ => rw [hy] at hk; cases hx : eA x <;> rw [hx] at hk <;> simp [sliceIdx] at hk
omit [Names] in
theorem rows_sub {α : Type} {R : α → List Value → Prop} {w : World} {width b o : Nat} {xs : List α} (hr : RowsAt R w width b o xs) (l h : Nat) : RowsAt R w width b (o + l * width) ((xs.take h).drop l) := by
  intro i hi
  rw [List.length_drop, List.length_take] at hi
  obtain ⟨rs, h1, h2, h3⟩ := hr (l + i) (by omega)
  refine ⟨rs, h1, fun j v hj => ?_, ?_⟩
  · have := h2 j v hj
    rwa [Nat.add_mul, ← Nat.add_assoc] at this
  · rw [List.getElem_drop, List.getElem_take]; exact h3
theorem good_cut {o : Oper} {t : Nat} {x : Operand} {lo hi : Option Operand} {eA : Operand → AV} {ev : Operand → Value} {K : AV → Upd → Option ρ} {res : ρ} (hT : TOk P T) (ho : o.op = .slice t x lo hi none) (h : SR base S B w0 objs loc F w)
    (hx : Val objs loc F B w (eA x) (ev x)) (hlo : ∀ y, lo = some y → Val objs loc F B w (eA y) (ev y)) (hhi : ∀ y, hi = some y → Val objs loc F B w (eA y) (ev y)) {get : Get} (hg : ∀ s ∈ AV.slots (eA x), get s = look objs s)
    (hk : cutK get (T.at t).kind (eA x) (lo.map eA) (hi.map eA) K = some res) : Good P base S B w0 objs loc F w o ev K res := by
  unfold cutK at hk
  split at hk
  · rename_i s hkind hax
    have hu := (hT t).str hkind
    rw [hax] at hx
    have hxv := val_str hx
    obtain ⟨l, h', hk, h0, h1, h2, hr⟩ := sliceIdx_ok (P := P) (w := w) hlo hhi (by omega) (by omega) hk
    refine Good.pure h hk ?_ rfl
    have hr := hr false s.size (by omega)
    rw [show ((s.size : Int)).toNat = s.size from rfl] at hr
    simp only [execOp, ho, Instr.sliceAt, Option.map_none, run_underlying hu, Instr.slice, hxv, Sem.run_bind, Sem.run_pure, Result.andThen_ok, Option.isSome_none, Bool.false_eq_true, if_false, hr]
  · rename_i e ty hkind hax
    obtain ⟨hu, inf, zv, hinf, hsz, _⟩ := (hT t).slice e ty hkind
    rw [hax] at hx
    have hxv : ev x = .slice none 0 0 := hx
    obtain ⟨l, h', hk, h0, h1, h2, hr⟩ := sliceIdx_ok (P := P) (w := w) hlo hhi (by omega) (by omega) hk
    refine Good.pure (cv := .slice none 0 0) h hk ?_ rfl
    have hr := hr true 0 (by omega)
    have e1 : l = 0 := by omega
    have e2 : h' = 0 := by omega
    subst e1; subst e2
    simp only [Int.toNat_zero] at hr
    simp only [execOp, ho, Instr.sliceAt, Option.map_none, run_underlying hu, Instr.slice, hxv, Sem.run_bind, Sem.run_pure, Result.andThen_ok, hr, sizeOf, typeInfo, run_program, hinf, if_true, Nat.sub_self]
  · rename_i e ty b t' xs hkind hax
    obtain ⟨hu, inf, zv, hinf, hsz, _⟩ := (hT t).slice e ty hkind
    split at hk
    case isFalse => cases hk
    rename_i ht; subst ht
    rw [hax] at hx
    have hx' : IRep (fun x => F x ∨ (b = true ∧ B x)) w (.list ty.erase) xs [ev x] := hx
    obtain ⟨a, m, c, he, hm, hmc, hadr⟩ := hx'
    cases he' : ev x <;> rw [he'] at he <;> simp at he
    obtain ⟨rfl, rfl, rfl⟩ := he
    obtain ⟨l, h', hk, h0, h1, h2, hr⟩ := sliceIdx_ok (P := P) (w := w) hlo hhi (by omega) (by omega) hk
    rename_i a m c
    have hr := hr true c (by omega)
    rw [show ((xs.length : Nat) : Int).toNat = m from by rw [hm]; rfl] at hr
    refine Good.pure (cv := .slice (if c = l.toNat then a else a.map (·.add (l.toNat * ty.w))) (h'.toNat - l.toNat) (c - l.toNat)) h hk ?_ ?_
    · simp only [execOp, ho, Instr.sliceAt, Option.map_none, run_underlying hu, Instr.slice, he', Sem.run_bind, Sem.run_pure, Result.andThen_ok, hr, sizeOf, typeInfo, run_program, hinf, hsz]
    · refine ⟨_, _, _, rfl, ?_, by omega, fun hn => ?_⟩
      · rw [List.length_drop, List.length_take]; omega
      · have hne : ¬ (c = l.toNat) := by omega
        have hpos : 0 < m := by omega
        obtain ⟨bl, o', rfl, hF, hlt, hrows⟩ := hadr hpos
        refine ⟨bl, o' + l.toNat * ty.erase.w, ?_, hF, hlt, rows_sub hrows _ _⟩
        rw [if_neg hne]
        simp [add_plain, Ty.w_erase]
  · rename_i e ty r hkind hax
    obtain ⟨hu, inf, zv, hinf, hsz, _⟩ := (hT t).slice e ty hkind
    rw [hax] at hx hg
    rw [ob_get (hg r.s (by simp [AV.slots]))] at hk
    split at hk
    case h_2 => cases hk
    rename_i z e' t' xs hob
    split at hk
    case isFalse => cases hk
    rename_i ht; subst ht
    have hx' : Leaf objs loc F B w (.ol r .whole) (ev x) := hx
    have hv := RS.found hx'.2 hob (by simp)
    have hv : ev x = hdr (loc r.s r.j) xs.length := hv
    obtain ⟨l, h', hk, h0, h1, h2, hr⟩ := sliceIdx_ok (P := P) (w := w) hlo hhi (by omega) (by omega) hk
    have hcap : xs.length ≤ (loc r.s r.j).cap := LstOk.cap_le (h.obs r.s r.j r.v _ (ob_some hob (by simp)).2)
    have hr := hr true (loc r.s r.j).cap (by omega)
    rw [show ((xs.length : Nat) : Int).toNat = xs.length from rfl] at hr
    refine Good.pure (cv := .slice (if (loc r.s r.j).cap = l.toNat then (loc r.s r.j).blk.map (fun b => (⟨b, (loc r.s r.j).off, none⟩ : Addr)) else ((loc r.s r.j).blk.map fun b => (⟨b, (loc r.s r.j).off, none⟩ : Addr)).map (·.add (l.toNat * ty.w))) (h'.toNat - l.toNat) ((loc r.s r.j).cap - l.toNat)) h hk ?_ ?_
    · simp only [execOp, ho, Instr.sliceAt, Option.map_none, run_underlying hu, Instr.slice, hv, hdr, Sem.run_bind, Sem.run_pure, Result.andThen_ok, hr, sizeOf, typeInfo, run_program, hinf, hsz]
    · refine ⟨rfl, .inr ⟨(ob_some hob (by simp)).1, r.v, _, (ob_some hob (by simp)).2, .inr ⟨rfl, h0, h1, h2, by omega, (if (loc r.s r.j).cap = l.toNat then (loc r.s r.j).off else (loc r.s r.j).off + l.toNat * ty.w), ?_, fun hc => by rw [if_neg (by omega)]⟩⟩⟩
      congr 1
      · by_cases hc : (loc r.s r.j).cap = l.toNat
        · rw [if_pos hc, if_pos hc]
        · rw [if_neg hc, if_neg hc]
          cases (loc r.s r.j).blk <;> simp [add_plain]
      · omega
  · rename_i e ty r lo0 hi0 hkind hax
    obtain ⟨hu, inf, zv, hinf, hsz, _⟩ := (hT t).slice e ty hkind
    rw [hax] at hx hg
    rw [ob_get (hg r.s (by simp [AV.slots]))] at hk
    split at hk
    case h_2 => cases hk
    rename_i z e' t' xs hob
    split at hk
    case isFalse => cases hk
    rename_i ht; subst ht
    have hx' : Leaf objs loc F B w (.ol r (.sub lo0 hi0)) (ev x) := hx
    have hv := RS.found hx'.2 hob (by simp)
    obtain ⟨v0, v1, v2, v3, o0, hv, hv4⟩ := (show viewOk (loc r.s r.j) ty.w xs.length (.sub lo0 hi0) (ev x) from hv)
    have hcap : xs.length ≤ (loc r.s r.j).cap := LstOk.cap_le (h.obs r.s r.j r.v _ (ob_some hob (by simp)).2)
    obtain ⟨l, h', hk, h0, h1, h2, hr⟩ := sliceIdx_ok (P := P) (w := w) hlo hhi (by omega) (by omega) hk
    have hr := hr true ((loc r.s r.j).cap - lo0.toNat) (by omega)
    refine Good.pure (cv := .slice (if (loc r.s r.j).cap - lo0.toNat = l.toNat then (loc r.s r.j).blk.map (fun b => (⟨b, o0, none⟩ : Addr)) else ((loc r.s r.j).blk.map fun b => (⟨b, o0, none⟩ : Addr)).map (·.add (l.toNat * ty.w))) (h'.toNat - l.toNat) ((loc r.s r.j).cap - lo0.toNat - l.toNat)) h hk ?_ ?_
    · simp only [execOp, ho, Instr.sliceAt, Option.map_none, run_underlying hu, Instr.slice, hv, Sem.run_bind, Sem.run_pure, Result.andThen_ok, hr, sizeOf, typeInfo, run_program, hinf, hsz]
    · refine ⟨rfl, .inr ⟨(ob_some hob (by simp)).1, r.v, _, (ob_some hob (by simp)).2, .inr ⟨rfl, by omega, by omega, by omega, by omega, (if (loc r.s r.j).cap - lo0.toNat = l.toNat then o0 else o0 + l.toNat * ty.w), ?_, fun hc => ?_⟩⟩⟩
      · congr 1
        · by_cases hc : (loc r.s r.j).cap - lo0.toNat = l.toNat
          · rw [if_pos hc, if_pos hc]
          · rw [if_neg hc, if_neg hc]
            cases (loc r.s r.j).blk <;> simp [add_plain]
        · omega
        · omega
      · rw [if_neg (by omega), hv4 (by omega), Nat.add_assoc, ← Nat.add_mul]
        congr 2
        omega
  · cases hk
theorem good_cut3 {o : Oper} {t : Nat} {x lo hi mx : Operand} {eA : Operand → AV} {ev : Operand → Value} {K : AV → Upd → Option ρ} {res : ρ} (hT : TOk P T) (ho : o.op = .slice t x (some lo) (some hi) (some mx)) (h : SR base S B w0 objs loc F w)
    (hx : Val objs loc F B w (eA x) (ev x)) (hlo : Val objs loc F B w (eA lo) (ev lo)) (hhi : Val objs loc F B w (eA hi) (ev hi)) (hmx : Val objs loc F B w (eA mx) (ev mx)) {get : Get} (hg : ∀ s ∈ AV.slots (eA x), get s = look objs s)
    (hk : cut3K get (T.at t).kind (eA x) (eA lo) (eA hi) (eA mx) K = some res) : Good P base S B w0 objs loc F w o ev K res := by
  unfold cut3K at hk
  split at hk
  case h_2 => cases hk
  rename_i e ty r vw kl l kh h' km m hkind hax hal hah ham
  obtain ⟨hu, inf, zv, hinf, hsz, _⟩ := (hT t).slice e ty hkind
  rw [hax] at hx hg
  rw [hal] at hlo
  rw [hah] at hhi
  rw [ham] at hmx
  rw [ob_get (hg r.s (by simp [AV.slots]))] at hk
  split at hk
  case h_2 => cases hk
  rename_i z e' t' xs hob
  split at hk
  case isFalse => cases hk
  rename_i ht; subst ht
  split at hk
  case isFalse => cases hk
  rename_i h1
  split at hk
  case isFalse => cases hk
  rename_i h2
  split at hk
  case isFalse => cases hk
  rename_i h3
  have hx' : Leaf objs loc F B w (.ol r vw) (ev x) := hx
  obtain ⟨a, n, c, hv, hn, _, hnc, _⟩ := view_at h hob (RS.found hx'.2 hob (by simp))
  have b1 := run_bound (P := P) (code := .slice3Acap) (y := c) (val_int hmx) h1.1 (by omega) w
  have b2 := run_bound (P := P) (code := .slice3B) (y := m.toNat) (val_int hhi) h2.1 (by omega) w
  have b3 := run_bound (P := P) (code := .slice3C) (y := h'.toNat) (val_int hlo) h3.1 (by omega) w
  refine Good.pure (v := .dead) (cv := .slice (if m.toNat = l.toNat then a else a.map (·.add (l.toNat * ty.w))) (h'.toNat - l.toNat) (m.toNat - l.toNat)) h hk ?_ trivial
  simp only [execOp, ho, Instr.sliceAt, Option.map_some, run_underlying hu, Instr.slice, hv, Instr.sliceBounds, Sem.run_bind, Sem.run_pure, Result.andThen_ok, if_true, b1, b2, b3, Option.isSome_some, sizeOf, typeInfo, run_program, hinf, hsz]
end
end Go.Eng
end

section
namespace Go.Eng
variable [Names]
section
variable {P : Program} {T : TT} {base : Nat} {S : List Nat} {B F : Nat → Prop} {w0 : World} {objs : Upd} {loc : Loc} {w : World} {ρ : Type}
theorem good_pickK {o : Oper} {c x y : Operand} {eA : Operand → AV} {ev : Operand → Value} {K : AV → Upd → Option ρ} {res : ρ} (ho : o.op = .pick c x y) (h : SR base S B w0 objs loc F w)
    (hc : Val objs loc F B w (eA c) (ev c)) (hx : Val objs loc F B w (eA x) (ev x)) (hy : Val objs loc F B w (eA y) (ev y)) (hk : pickK (eA c) (eA x) (eA y) K = some res) : Good P base S B w0 objs loc F w o ev K res := by
  unfold pickK at hk
  split at hk
  · rename_i b hb
    rw [hb] at hc
    exact good_pick ho h hc hx hy hk
  · cases hk
theorem lenOf_ok {t : Nat} {v : AV} {cv : Value} {n : Int} {get : Get} (hT : TOk P T) (h : SR base S B w0 objs loc F w) (hv : Val objs loc F B w v cv) (hg : ∀ s ∈ AV.slots v, get s = look objs s)
    (hk : lenOf get (T.at t).kind v = some n) : (∃ s, P.underlying t = some .string ∧ cv = .string s ∧ n = s.size) ∨ (∃ e a m c, P.underlying t = some (.slice e) ∧ cv = .slice a m c ∧ n = m) := by
  unfold lenOf at hk
  split at hk
  · rename_i hkind
    simp only [Option.some.injEq] at hk
    exact .inl ⟨_, (hT t).str hkind, val_str hv, hk.symm⟩
  · rename_i e ty hkind
    simp only [Option.some.injEq] at hk
    exact .inr ⟨e, none, 0, 0, ((hT t).slice e ty hkind).1, hv, by omega⟩
  · rename_i e ty b t' xs hkind
    simp only [Option.some.injEq] at hk
    have hv' : IRep (fun x => F x ∨ (b = true ∧ B x)) w (.list t') xs [cv] := hv
    obtain ⟨a, m, c, he, hm, _⟩ := hv'
    cases he
    exact .inr ⟨e, a, m, c, ((hT t).slice e ty hkind).1, rfl, by omega⟩
  · rename_i e ty r vw hkind
    rw [ob_get (hg r.s (by simp [AV.slots]))] at hk
    split at hk
    · rename_i z e' t' xs hob
      simp only [Option.some.injEq] at hk
      have hv' : Leaf objs loc F B w (.ol r vw) cv := hv
      obtain ⟨a, m, c, rfl, h1, _⟩ := view_at h hob (RS.found hv'.2 hob (by simp))
      exact .inr ⟨e, a, m, c, ((hT t).slice e ty hkind).1, rfl, by omega⟩
    · cases hk
  · rename_i e ty r k i off hkind
    split at hk
    case h_2 => cases hk
    rename_i ol hnl
    simp only [Option.some.injEq] at hk
    obtain ⟨_, _, _, _, _, _, l, _, _, _, _, _, _, _, hv', _⟩ := nl_found h (show Leaf objs loc F B w (.nl r k i off) cv from hv) hg hnl
    exact .inr ⟨e, _, _, _, ((hT t).slice e ty hkind).1, hv', by omega⟩
  · cases hk
theorem rowCellsE_ok {r : Ref} {k : Nat} {i : Int} {z : Bool} {e0 : Nat} {t0 : Ty} {xs : List t0.den} {b : Nat} (hk : k = (look objs SHG).g) (hob : Get.ob (look objs) r = .lst z e0 t0 xs) (hb : (loc r.s r.j).blk = some b) (h0 : 0 ≤ i) (h1 : i < (xs.length : Int)) :
    ∀ {t : Ty} {x : t.den} {cs : List Value} {S0 : List Nat} (o : Nat), TRep F w t x cs S0 → (∀ q, (t.olsTy q).isSome = true → (t0.olsTy (o + q)).isSome = true) →
    (∀ j v, cs[j]? = some v → w.cell? ⟨b, (loc r.s r.j).off + i.toNat * t0.w + (o + j), none⟩ = some v) → Leafs objs loc F B w (rowCellsE r k i o t x) cs
  | .int _, _, _, _, _, h, _, _ => by cases h.1; exact ⟨rfl, rfl, trivial⟩
  | .bool, _, _, _, _, h, _, _ => by cases h.1; exact ⟨rfl, rfl, trivial⟩
  | .str, _, _, _, _, h, _, _ => by cases h.1; exact ⟨rfl, rfl, trivial⟩
  | .list t, xs, cs, _, _, h, _, _ => by
    have h' := h.1
    obtain ⟨⟨a, n, c, rfl, _⟩, _⟩ := h
    exact ⟨rfl, h'.left (bo := false), trivial⟩
  | .unit, _, _, _, _, h, _, _ => by cases h.1; trivial
  | .nm, n, _, _, _, h, _, _ => by cases h.1; exact ⟨Names.one n, rfl, trivial⟩
  | .ols e u, ys, cs, _, o, h, ht, hc => by
    obtain ⟨l, rfl, rfl, _⟩ := h
    refine ⟨rfl, ⟨rfl, .inr ⟨hk, .inr ⟨(ob_some hob (by simp)).1, r.v, _, (ob_some hob (by simp)).2, .inr ⟨rfl, h0, h1, ht 0 rfl, b, hb, ?_⟩⟩⟩⟩, trivial⟩
    have := hc 0 _ rfl
    rw [Nat.add_zero] at this
    exact this
  | .olq e u, some ys, cs, _, o, h, ht, hc => by
    obtain ⟨l, rfl, _⟩ := h
    exact ⟨rfl, trivial, trivial⟩
  | .olq e u, none, cs, _, o, h, ht, hc => by
    obtain ⟨⟨v, rfl, hv⟩, _⟩ := h
    exact ⟨hv, trivial, trivial⟩
  | .pair a c, x, _, _, o, h, ht, hc => by
    obtain ⟨c1, c2, S1, S2, rfl, rfl, k1, k2⟩ := h
    have hl := k1.len
    refine (rowCellsE_ok hk hob hb h0 h1 o k1 (fun q hq => ht q ?_) fun j v hj => hc j v ?_).app (rowCellsE_ok hk hob hb h0 h1 (o + a.w) k2 (fun q hq => ?_) fun j v hj => ?_)
    · simp only [Ty.olsTy]
      rw [if_pos (Ty.olsTy_lt hq)]
      exact hq
    · rw [List.getElem?_append_left (by have := (List.getElem?_eq_some_iff.1 hj).1; omega)]
      exact hj
    · have := ht (a.w + q) (by simp only [Ty.olsTy]; rw [if_neg (by omega), Nat.add_sub_cancel_left]; exact hq)
      rw [← Nat.add_assoc] at this
      exact this
    · have := hc (a.w + j) v (by rw [List.getElem?_append_right (by omega), hl, Nat.add_sub_cancel_left]; exact hj)
      rw [Nat.add_assoc o a.w j]
      exact this
omit [Names] in
theorem LstW.row {α : Type} {R : α → List Value → List Nat → Prop} {width : Nat} {l : LV} {z : Bool} {e : Nat} {xs : List α} {b : Nat} (h : LstW R width w l z e xs) (hb : l.blk = some b) {i : Nat} (hi : i < xs.length) :
    ∃ rs S0, rs.length = width ∧ (∀ j, j < width → w.cell? ⟨b, l.off + i * width + j, none⟩ = rs[j]?) ∧ R xs[i] rs S0 := by
  unfold LstW at h
  rw [hb] at h
  obtain ⟨vs, fr, Ss, hh, _, _, _, _, _, hsub, _, hlen, hr⟩ := h
  have hi' : i < Ss.length := by omega
  obtain ⟨rs, k1, k2, k3⟩ := hr i _ _ (List.getElem?_eq_getElem hi) (List.getElem?_eq_getElem hi')
  refine ⟨rs, _, k1, fun j hj => ?_, k3⟩
  rw [cell_heap hh, ← k2 j hj, List.getElem?_drop, Array.getElem?_toList]
  congr 1
  omega
theorem rowCells_trep : ∀ {t : Ty} {x : t.den} {cs : List Value} {S0 : List Nat}, TRep F w t x cs S0 → Leafs objs loc F B w (rowCells false t x) cs
  | .int _, _, _, _, h => rowCells_ok (h.1.left (bo := false))
  | .bool, _, _, _, h => rowCells_ok (h.1.left (bo := false))
  | .str, _, _, _, h => rowCells_ok (h.1.left (bo := false))
  | .list t, _, _, _, h => rowCells_ok (h.1.left (bo := false))
  | .unit, _, _, _, h => rowCells_ok (h.1.left (bo := false))
  | .nm, _, _, _, h => rowCells_ok (h.1.left (bo := false))
  | .ols e u, _, _, _, h => by
    obtain ⟨l, rfl, _⟩ := h
    exact ⟨rfl, trivial, trivial⟩
  | .olq e u, some _, _, _, h => by
    obtain ⟨l, rfl, _⟩ := h
    exact ⟨rfl, trivial, trivial⟩
  | .olq e u, none, _, _, h => by
    obtain ⟨⟨v, rfl, hv⟩, _⟩ := h
    exact ⟨hv, trivial, trivial⟩
  | .pair a b, _, _, _, h => by
    obtain ⟨c1, c2, S1, S2, rfl, rfl, k1, k2⟩ := h
    exact (rowCells_trep k1).app (rowCells_trep k2)
omit [Names] in
theorem resolve_builtin (b : Builtin) (as : Array Operand) (ts : Array TypeId) (ty : TypeId) (ev : Operand → Value) (w : World) :
    (resolve ev ⟨.builtin b, as, ts⟩ ty).run P w = .ok { target := .builtin b ts ty (as.map fun | .const _ => true | _ => false), args := as.map ev } w := rfl
omit [Names] in
theorem run_builtin {o : Oper} {b : Builtin} {as : Array Operand} {ts : Array TypeId} {ev : Operand → Value} (ho : o.op = .call ⟨.builtin b, as, ts⟩) (w : World) :
    (execOp ev o).run P w = (builtin b ts o.type (as.map fun | .const _ => true | _ => false) (as.map ev)).run P w := by
  simp only [execOp, ho, Sem.run_bind, resolve_builtin, Result.andThen_ok, invoke]
theorem good_len {o : Oper} {as : Array Operand} {ts : Array TypeId} {t : Nat} {x : AV} {eA : Operand → AV} {ev : Operand → Value} {K : AV → Upd → Option ρ} {res : ρ} {n : Int} {get : Get} (hT : TOk P T) (ho : o.op = .call ⟨.builtin .len, as, ts⟩) (h : SR base S B w0 objs loc F w)
    (hx : ∀ y ∈ as, Val objs loc F B w (eA y) (ev y)) (has : as.toList.map eA = [x]) (hts : ts.toList = [t]) (hg : ∀ s ∈ AV.slots x, get s = look objs s)
    (hl : lenOf get (T.at t).kind x = some n) (hk : K (.int .i64 n) [] = some res) : Good P base S B w0 objs loc F w o ev K res := by
  have hts' : ts = #[t] := by apply Array.ext'; simpa using hts
  subst hts'
  obtain ⟨y, rfl, rfl⟩ : ∃ y, as = #[y] ∧ eA y = x := by
    cases hl : as.toList with
    | nil => rw [hl] at has; simp at has
    | cons y l =>
      cases l with
      | nil => rw [hl] at has; simp at has; exact ⟨y, by apply Array.ext'; simpa using hl, has⟩
      | cons _ _ => rw [hl] at has; simp at has
  have hv := hx y (by simp)
  refine Good.pure (cv := .int .i64 n) h hk ?_ rfl
  rw [run_builtin ho]
  rcases lenOf_ok hT h hv hg hl with ⟨s, hu, he, rfl⟩ | ⟨e, a, m, c, hu, he, rfl⟩
  · simp [builtin, Builtin.len_, he, run_underlying hu, goInt]
  · simp [builtin, Builtin.len_, he, run_underlying hu, goInt]
theorem good_minmax {o : Oper} {mx : Bool} {as : Array Operand} {ts : Array TypeId} {k : IntKind} {a b : Int} {eA : Operand → AV} {ev : Operand → Value} {K : AV → Upd → Option ρ} {res : ρ} (ho : o.op = .call ⟨.builtin (if mx then .max else .min), as, ts⟩) (h : SR base S B w0 objs loc F w)
    (hx : ∀ y ∈ as, Val objs loc F B w (eA y) (ev y)) (has : as.toList.map eA = [.int k a, .int k b])
    (hk : K (.int k (if mx then (if a < b then b else a) else (if b < a then b else a))) [] = some res) : Good P base S B w0 objs loc F w o ev K res := by
  obtain ⟨y, z, rfl, h1, h2⟩ : ∃ y z, as = #[y, z] ∧ eA y = .int k a ∧ eA z = .int k b := by
    cases hl : as.toList with
    | nil => rw [hl] at has; simp at has
    | cons y l =>
      cases l with
      | nil => rw [hl] at has; simp at has
      | cons z l => cases l with
        | nil => rw [hl] at has; simp at has; exact ⟨y, z, by apply Array.ext'; simpa using hl, has.1, has.2⟩
        | cons _ _ => rw [hl] at has; simp at has
  have hv := hx y (by simp)
  have hw := hx z (by simp)
  rw [h1] at hv
  rw [h2] at hw
  have hv := val_int hv
  have hw := val_int hw
  refine Good.pure (cv := .int k (if mx then (if a < b then b else a) else (if b < a then b else a))) h hk ?_ rfl
  rw [run_builtin ho]
  cases mx with
  | true => simp [builtin, Builtin.max_, Builtin.max2, hv, hw]
  | false => simp [builtin, Builtin.min_, Builtin.min2, hv, hw]
theorem load_give {t : Nat} {pv : Value} {K : AV → Option ρ} {res : ρ} {cs : List AV} {vs : List Value} {b off : Nat} (hT : TOk P T)
    (hx : pv = .pointer (some ⟨b, off, none⟩)) (hl : Leafs objs loc F B w cs vs) (hc : ∀ j v, vs[j]? = some v → w.cell? ⟨b, off + j, none⟩ = some v)
    (hk : (match Nat.ble 1 (T.at t).w && Nat.ble (T.at t).w cs.length with
    | true => (match (T.at t).agg with
      | true => K (.agg (cs.take (T.at t).w))
      | false => match cs with | c :: _ => K c | [] => none)
    | false => none) = some res) : ∃ a cv, K a = some res ∧ (Instr.loadAt t pv).run P w = .ok cv w ∧ Val objs loc F B w a cv := by
  split at hk
  case h_2 => cases hk
  rename_i hlen
  simp only [Bool.and_eq_true, Nat.ble_eq] at hlen
  obtain ⟨d, inf, hd, hrow, hi, hs⟩ := at_row (t := t) hT (by omega)
  have hle := hl.len
  split at hk
  · rename_i hagg
    refine ⟨_, .agg (vs.take (T.at t).w).toArray, hk, ?_, ⟨_, rfl, by simpa using hl.take (T.at t).w⟩⟩
    have hlen' : (vs.take (T.at t).w).length = (T.at t).w := by rw [List.length_take]; omega
    have := run_loadAt_mid (P := P) w b off t (vs.take (T.at t).w) d (fun j v hj => hc j v (by
      rw [List.getElem?_take] at hj
      split at hj
      · exact hj
      · cases hj)) hd (by rw [hrow, hagg]) (by rw [hi, hlen']; simp [hs])
    rw [hx]; exact this
  · rename_i hagg
    cases cs with
    | nil => simp at hk
    | cons c cs =>
      cases vs with
      | nil => exact hl.elim
      | cons v vs =>
        refine ⟨c, v, hk, ?_, leaf_val hl.2.1⟩
        have hcell := hc 0 v rfl
        rw [Nat.add_zero] at hcell
        simp [hx, Instr.loadAt, Instr.sureAddr, loadVar, run_isAgg hd, hrow, hagg, hcell]
theorem boxInts_ok {k : IntKind} : ∀ {cs : List AV} {vs : List Value} {K : List Int → Option ρ} {res : ρ}, Leafs objs loc F B w cs vs → boxInts k cs K = some res → ∃ xs, K xs = some res ∧ xs.length = vs.length ∧ ∀ (i : Nat) (x : Int), xs[i]? = some x → vs[i]? = some (Value.int k x)
  | [], [], K, res, _, hk => ⟨[], hk, rfl, fun i x h => by simp at h⟩
  | [], _ :: _, _, _, h, _ => h.elim
  | _ :: _, [], _, _, h, _ => by cases h
  | c :: cs, v :: vs, K, res, h, hk => by
    cases c <;> try (simp [boxInts] at hk; done)
    rename_i k' n
    simp only [boxInts] at hk
    split at hk
    case isFalse => cases hk
    rename_i e
    subst e
    obtain ⟨_, hv, hr⟩ := h
    obtain ⟨xs, hk, h1, h2⟩ := boxInts_ok hr hk
    refine ⟨n :: xs, hk, by simp [h1], fun i x hx => ?_⟩
    cases i with
    | zero => simp at hx; subst hx; exact congrArg some (show v = Value.int k' n from hv)
    | succ i => exact h2 i x (by simpa using hx)
theorem load_run {t : Nat} {pv : Value} {av : AV} {K : AV → Option ρ} {res : ρ} {get : Get} (hT : TOk P T) (h : SR base S B w0 objs loc F w)
    (hx : Val objs loc F B w av pv) (hg : ∀ s ∈ AV.slots av, get s = look objs s) (hk : loadK T get t av K = some res) : ∃ a cv, K a = some res ∧ (Instr.loadAt t pv).run P w = .ok cv w ∧ Val objs loc F B w a cv := by
  unfold loadK at hk
  split at hk
  · rename_i r off
    rw [ob_get (hg r.s (by simp [AV.slots]))] at hk
    split at hk
    case h_2 => cases hk
    rename_i cs hob
    have hx' : Leaf objs loc F B w (.ptr r off) pv := hx
    obtain ⟨b, hb, hv⟩ := RS.found hx'.2 hob (by simp)
    obtain ⟨b', vs, e, fr, hb', _, hh, _, hl⟩ := h.obs r.s r.j r.v _ (ob_some hob (by simp)).2
    rw [hb] at hb'
    injection hb' with hb'
    subst hb'
    refine load_give hT hv (hl.drop off) (fun j v hj => ?_) hk
    rw [cell_heap hh]
    rw [List.getElem?_drop] at hj
    simpa using hj
  · rename_i r ix off
    rw [ob_get (hg r.s (by simp [AV.slots]))] at hk
    split at hk
    case h_3 => cases hk
    case h_2 =>
      rename_i cs hob
      obtain ⟨b, hb, h0, hv⟩ := RS.found (show Leaf objs loc F B w (.ep r ix off) pv from hx).2 hob (by simp)
      obtain ⟨b', vs, e, fr, hb', _, hh, _, hl⟩ := h.obs r.s r.j r.v _ (ob_some hob (by simp)).2
      rw [hb] at hb'
      injection hb' with hb'
      subst hb'
      dsimp only at hk
      split at hk
      case h_2 => cases hk
      rename_i k hkind
      obtain ⟨xs, hk, hxs⟩ := boxInts_ok (hl.drop off) hk
      split at hk
      case isFalse => cases hk
      rename_i hlt
      obtain ⟨hlen, hat⟩ := hxs
      have hi : ix.toNat < xs.length := by omega
      have hat := hat ix.toNat xs[ix.toNat] (List.getElem?_eq_getElem hi)
      rw [List.getElem?_drop] at hat
      refine ⟨_, .int k xs[ix.toNat], hk, ?_, ?_⟩
      · have hcell : w.cell? ⟨b, off + ix.toNat, none⟩ = some (.int k xs[ix.toNat]) := by
          rw [cell_heap hh]
          simpa using hat
        simp [hv, Instr.loadAt, Instr.sureAddr, loadVar, run_isAgg ((hT t).int k hkind), TypeDesc.isRow, hcell]
      · show Value.int k xs[ix.toNat] = .int k (Ty.rd (t := .int k) xs ix)
        simp [Ty.rd, List.getD, List.getElem?_eq_getElem hi]
    rename_i z e t0 xs hob
    have hx' : Leaf objs loc F B w (.ep r ix off) pv := hx
    obtain ⟨b, hb, h0, h1, hv⟩ := RS.found hx'.2 hob (by simp)
    have hok : LstOk F w (loc r.s r.j) z e t0 xs := h.obs r.s r.j r.v _ (ob_some hob (by simp)).2
    have hi : ix.toNat < xs.length := by omega
    obtain ⟨rs, S0, k1, k2, k3, _⟩ := hok.row hb hi
    rw [rd_at hi, hg SHG (by simp [AV.slots])] at hk
    have hcells : ∀ j v, rs[j]? = some v → w.cell? ⟨b, (loc r.s r.j).off + ix.toNat * t0.w + j, none⟩ = some v := fun j v hj => by
      rw [k2 j (by have := (List.getElem?_eq_some_iff.1 hj).1; omega), hj]
    have hl : Leafs objs loc F B w (rowCellsE r (look objs SHG).g ix 0 t0 xs[ix.toNat]) rs := rowCellsE_ok rfl hob hb h0 h1 0 k3 (fun q hq => by rw [Nat.zero_add]; exact hq) (fun j v hj => by rw [Nat.zero_add]; exact hcells j v hj)
    refine load_give hT hv (hl.drop off) (fun j v hj => ?_) hk
    rw [List.getElem?_drop] at hj
    have := hcells (off + j) v hj
    rw [← this]
    congr 2
    omega
  · rename_i b t0 xs ix off
    obtain ⟨h0, h1, bl, o', hv, hF, hlt, hr⟩ := (show Leaf objs loc F B w (.ip b t0 xs ix off) pv from hx)
    have hi : ix.toNat < xs.length := by omega
    obtain ⟨rs, k1, k2, k3⟩ := hr ix.toNat hi
    have hrd : Ty.rd xs ix = xs[ix.toNat] := by simp [Ty.rd, List.getD, List.getElem?_eq_getElem hi]
    rw [hrd] at hk
    have hl : Leafs objs loc F B w (rowCells b t0 xs[ix.toNat]) rs := rowCells_ok k3
    refine load_give hT hv (hl.drop off) (fun j v hj => ?_) hk
    rw [List.getElem?_drop] at hj
    have := k2 (off + j) v hj
    rw [← this]
    congr 2
    omega
  · rename_i r k i off j off2
    split at hk
    case h_2 => cases hk
    rename_i ol hnl
    obtain ⟨_, z, e, t0, xs, b, l, bl, hob, h0, h1, _, _, _, _, hlw, _, hj0, hj1, hbl, hv⟩ := np_found h (show Leaf objs loc F B w (.np r k i off j off2) pv from hx) hg hnl
    have hi : j.toNat < ol.ys.length := by omega
    obtain ⟨rs, S0, k1, k2, k3⟩ := LstW.row hlw hbl hi
    rw [rd_at hi] at hk
    have hl : Leafs objs loc F B w (rowCells false ol.u ol.ys[j.toNat]) rs := rowCells_trep k3
    refine load_give hT hv (hl.drop off2) (fun q v hq => ?_) hk
    rw [List.getElem?_drop] at hq
    have := k2 (off2 + q) (by have := (List.getElem?_eq_some_iff.1 hq).1; omega)
    rw [hq] at this
    rw [← this]
    congr 2
    omega
  · cases hk
theorem good_load {o : Oper} {t : Nat} {x : Operand} {av : AV} {ev : Operand → Value} {K : AV → Upd → Option ρ} {res : ρ} {get : Get} (hT : TOk P T) (ho : o.op = .load t x) (h : SR base S B w0 objs loc F w)
    (hx : Val objs loc F B w av (ev x)) (hg : ∀ s ∈ AV.slots av, get s = look objs s) (hk : loadK T get t av (fun v => K v []) = some res) : Good P base S B w0 objs loc F w o ev K res := by
  obtain ⟨a, cv, hk, hr, hv⟩ := load_run hT h hx hg hk
  exact Good.pure h hk (by simp only [execOp, ho, Sem.run_bind, hr, Sem.run_pure, Result.andThen_ok]) hv
omit [Names] in
theorem toNat_byte (b : UInt8) : UInt8.ofNat ((b.toNat : Int)).toNat = b := by simp
theorem good_conv_int {o : Oper} {src t : Nat} {x : Operand} {k k' : IntKind} {n : Int} {ev : Operand → Value} {K : AV → Upd → Option ρ} {res : ρ} (hT : TOk P T) (ho : o.op = .convert src t x) (h : SR base S B w0 objs loc F w) (hsrc : (P.underlying src).isSome = true)
    (hx : Val objs loc F B w (.int k' n) (ev x)) (hkind : (T.at t).kind = .int k) (hk : K (.int k (k.wrap n)) [] = some res) : Good P base S B w0 objs loc F w o ev K res := by
  have hx := val_int hx
  obtain ⟨d, hd⟩ := Option.isSome_iff_exists.1 hsrc
  refine Good.pure h hk ?_ rfl
  simp only [execOp, ho, hx, convert, run_underlying hd, run_underlying ((hT t).int k hkind), Conv.intToInt, Sem.run_bind, Sem.run_pure, Result.andThen_ok]
end
end Go.Eng
end
