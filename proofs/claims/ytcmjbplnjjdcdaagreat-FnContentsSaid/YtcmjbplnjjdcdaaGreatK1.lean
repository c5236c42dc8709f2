/- The proof system: an abstract machine over data, and that what it computes the code computes.
   Conditions: as each theorem states. -/
import Derived.Test.YtcmjbplnjjdcdaaGreatWShare
import Derived.Test.YtcmjbplnjjdcdaaGreatWZeros
import Derived.Test.YtcmjbplnjjdcdaaGreatWInv
import Derived.Great.FillDense
set_option linter.unusedVariables false
set_option linter.unusedSimpArgs false
namespace Go.Proofs.YtcmjbplnjjdcdaaGreat.Ref
open Go.RowKit Go.Proofs.YtcmjbplnjjdcdaaGreatW.PrintWords Go.Proofs.YtcmjbplnjjdcdaaGreatW.PrintLast

inductive Ty where
  | int (k : IntKind)
  | bool
  | str
  | slice (e : Nat) (t : Ty)
  | pair (a b : Ty)

@[reducible] def Ty.den : Ty → Type
  | .int _ => Int
  | .bool => Bool
  | .str => ByteArray
  | .slice _ t => List t.den
  | .pair a b => a.den × b.den

def Ty.kd : (t : Ty) → Kd t.den
  | .int k => Kd.int k
  | .bool => Kd.bool
  | .str => Kd.string
  | .slice e t => Kd.slice e t.kd
  | .pair a b => Kd.pair a.kd b.kd

def Ty.sz : Ty → Nat
  | .pair a b => a.sz + b.sz
  | _ => 1

def Ty.flat : Ty → Bool
  | .slice _ _ => false
  | .pair a b => a.flat && b.flat
  | _ => true

def Ty.isPair : Ty → Bool
  | .pair _ _ => true
  | _ => false

def kindEq : IntKind → IntKind → Bool
  | .i8, .i8 => true | .i16, .i16 => true | .i32, .i32 => true | .i64, .i64 => true
  | .u8, .u8 => true | .u16, .u16 => true | .u32, .u32 => true | .u64, .u64 => true
  | _, _ => false
theorem kindEq_eq {a b : IntKind} (h : kindEq a b = true) : a = b := by cases a <;> cases b <;> first | rfl | cases h

def Ty.beq : Ty → Ty → Bool
  | .int k, .int k' => kindEq k k'
  | .bool, .bool => true
  | .str, .str => true
  | .slice e t, .slice e' t' => Nat.beq e e' && t.beq t'
  | .pair a b, .pair a' b' => a.beq a' && b.beq b'
  | _, _ => false
theorem Ty.eq_of_beq : {a b : Ty} → a.beq b = true → a = b
  | .int k, .int k', h => by rw [kindEq_eq h]
  | .bool, .bool, _ => rfl
  | .str, .str, _ => rfl
  | .slice e t, .slice e' t', h => by
    simp only [Ty.beq, Bool.and_eq_true] at h
    rw [Nat.eq_of_beq_eq_true h.1, Ty.eq_of_beq h.2]
  | .pair a b, .pair a' b', h => by
    simp only [Ty.beq, Bool.and_eq_true] at h
    rw [Ty.eq_of_beq h.1, Ty.eq_of_beq h.2]

/-- A value taken for one of a known type. -/
def Ty.cast {t : Ty} (t' : Ty) (x : t.den) : Option t'.den :=
  match h : t.beq t' with
  | true => some ((Ty.eq_of_beq h) ▸ x)
  | false => none

/-- The value that has these cells. -/
def valOf (t : Ty) (cs : List Value) : Value := match t with
  | .pair _ _ => .agg cs.toArray
  | _ => cs.headD undef

def Ty.zero : (t : Ty) → t.den
  | .int _ => (0 : Int)
  | .bool => false
  | .str => ByteArray.empty
  | .slice _ _ => []
  | .pair a b => (a.zero, b.zero)

/-- Marks: which slices in a value are this frame's own rows. -/
inductive Mk where
  | no
  | nil
  | own (r : Nat)
  | pair (a b : Mk)
def Mk.fst : Mk → Mk | .pair a _ => a | _ => .no
def Mk.snd : Mk → Mk | .pair _ b => b | _ => .no
def Ty.zmk : Ty → Mk
  | .slice _ _ => .nil
  | .pair a b => .pair a.zmk b.zmk
  | _ => .no
def Mk.ids : Mk → List Nat
  | .own r => [r]
  | .pair a b => a.ids ++ b.ids
  | _ => []

inductive TV where
  | v (t : Ty) (x : t.den) (m : Mk)
  | nils                                   -- a nil slice whose type isn't told
  | undef                                  -- an operation that was passed over
  | box (b : Nat) (p : List Bool)          -- a pointer into a variable of the frame
  | ref (t : Ty) (x : t.den)               -- a pointer to memory that is only read
  | elt (r : Nat) (i : Int) (p : List Bool)   -- a pointer to an own row's element
  | clo (f : Nat) (caps : List TV)
  | tup (l : List TV)
  | nilp                                   -- the nil pointer

inductive Val where
  | tv (v : TV)
  | box (t : Ty) (x : t.den) (m : Mk)
  | row (e : Nat) (t : Ty) (xs : List t.den)

/-- Keys: 3i: slot i; 3b+1: variable b; 3r+2: own row r. -/
def kT (i : Nat) : Nat := 3 * i
def kB (i : Nat) : Nat := 3 * i + 1
def kR (i : Nat) : Nat := 3 * i + 2
abbrev St := List (Nat × Option Val)
def get : St → Nat → Option Val
  | [], _ => none
  | (k', v) :: r, k => match Nat.beq k' k with
    | true => v
    | false => get r k
def dom : St → Nat → Bool
  | [], _ => false
  | (k', _) :: r, k => match Nat.beq k' k with
    | true => true
    | false => dom r k

/-- A program over the state: it reads keys; each read is told. -/
inductive Pg (α : Type) where
  | ret (a : α)
  | fail
  | rd (k : Nat) (f : Val → Pg α)
  | fresh (k : Nat) (f : Pg α)            -- key k has never been used
  | chk (c : Bool) (f : Pg α)             -- go on where c holds
def Pg.bind {α β : Type} : Pg α → (α → Pg β) → Pg β
  | .ret a, g => g a
  | .fail, _ => .fail
  | .rd k f, g => .rd k fun v => (f v).bind g
  | .fresh k f, g => .fresh k (f.bind g)
  | .chk c f, g => .chk c (f.bind g)
/-- The answer, and the keys that were asked for. -/
def Pg.run {α : Type} : Pg α → St → Option (α × List Nat)
  | .ret a, _ => some (a, [])
  | .fail, _ => none
  | .rd k f, st => match get st k with
    | some v => match (f v).run st with
      | some (a, l) => some (a, k :: l)
      | none => none
    | none => none
  | .fresh k f, st => match dom st k with
    | true => none
    | false => match f.run st with
      | some (a, l) => some (a, k :: l)
      | none => none
  | .chk c f, st => match c with
    | true => f.run st
    | false => none
/-- The same, handed on. -/
def Pg.runK {α ρ : Type} : Pg α → St → List Nat → (α → List Nat → Option ρ) → Option ρ
  | .ret a, _, l, K => K a l
  | .fail, _, _, _ => none
  | .rd k f, st, l, K => match get st k with
    | some v => (f v).runK st (k :: l) K
    | none => none
  | .fresh k f, st, l, K => match dom st k with
    | true => none
    | false => f.runK st (k :: l) K
  | .chk c f, st, l, K => cond c (f.runK st l K) none
abbrev Wr := List (Nat × Option Val)

def offp : Ty → List Bool → Nat
  | .pair a _, false :: p => offp a p
  | .pair a b, true :: p => a.sz + offp b p
  | _, _ => 0
def getp : (t : Ty) → t.den → Mk → List Bool → Option ((t' : Ty) × t'.den × Mk)
  | t, x, m, [] => some ⟨t, x, m⟩
  | .pair a _, x, m, false :: p => getp a x.1 m.fst p
  | .pair _ b, x, m, true :: p => getp b x.2 m.snd p
  | _, _, _, _ :: _ => none
def setp : (t : Ty) → t.den → Mk → List Bool → (t' : Ty) → t'.den → Mk → Option (t.den × Mk)
  | t, _, _, [], _, x', m' => match Ty.cast t x' with
    | some y => some (y, m')
    | none => none
  | .pair a b, x, m, false :: p, t', x', m' => match setp a x.1 m.fst p t' x' m' with
    | some (y, n) => some ((y, x.2), .pair n m.snd)
    | none => none
  | .pair a b, x, m, true :: p, t', x', m' => match setp b x.2 m.snd p t' x' m' with
    | some (y, n) => some ((x.1, y), .pair m.fst n)
    | none => none
  | _, _, _, _ :: _, _, _, _ => none

structure Tab where
  tys : List (Nat × Ty)
  fps : List (Nat × Nat × List Bool)
  lends : List Nat                         -- the functions that write into their first argument's rows
  ptrs : List Nat                          -- the functions whose first argument is a pointer to a variable of their caller
  news : List Nat                          -- the functions that hand back a pointer to a new variable
  gives : List Nat                         -- the functions that are given the own rows of their arguments
def lookTy : List (Nat × Ty) → Nat → Option Ty
  | [], _ => none
  | (k, t) :: r, n => match Nat.beq k n with
    | true => some t
    | false => lookTy r n
def lookFp : List (Nat × Nat × List Bool) → Nat → Nat → Option (List Bool)
  | [], _, _ => none
  | (k, f, p) :: r, n, g => match Nat.beq k n && Nat.beq f g with
    | true => some p
    | false => lookFp r n g
def Tab.ty (T : Tab) (n : Nat) : Option Ty := lookTy T.tys n
def Tab.fp (T : Tab) (n f : Nat) : Option (List Bool) := lookFp T.fps n f

end Go.Proofs.YtcmjbplnjjdcdaaGreat.Ref

namespace Go.Proofs.YtcmjbplnjjdcdaaGreat.Ref
open Go.RowKit Go.Proofs.YtcmjbplnjjdcdaaGreatW.PrintWords Go.Proofs.YtcmjbplnjjdcdaaGreatW.PrintLast

def big : Nat := 9223372036854775807
def lnL {α : Type} (p : α → Prop) (xs : List α) : Prop := xs.length ≤ big ∧ ∀ x, List.Mem x xs → p x
def evc : Value → Pg TV
  | .int k n => .ret (.v (.int k) n .no)
  | .bool b => .ret (.v .bool b .no)
  | .string s => .ret (.v .str s .no)
  | .slice none 0 0 => .ret .nils
  | .pointer none => .ret .nilp
  | _ => .fail
def ev : Operand → Pg TV
  | .tmp t => .rd (kT t) fun
    | .tv v => .ret v
    | _ => .fail
  | .const c => evc c
  | .func f => .ret (.clo f [])
  | .global _ => .fail
/-- A nil slice takes the type that is asked of it. -/
def typed (T : Tab) (n : Nat) : TV → Pg TV
  | .nils => match T.ty n with
    | some (.slice e t) => .ret (.v (.slice e t) [] .nil)
    | _ => .fail
  | v => .ret v
def evt (T : Tab) (n : Nat) (x : Operand) : Pg TV := (ev x).bind (typed T n)
/-- A value of the type that is asked. -/
def evd (T : Tab) (n : Nat) (x : Operand) : Pg ((t : Ty) × t.den × Mk) := (evt T n x).bind fun
  | .v t y m => match T.ty n with
    | some t' => .chk (t.beq t') (.ret ⟨t, y, m⟩)
    | none => .fail
  | _ => .fail
/-- What a value is, its own rows' contents laid in. -/
def full : (t : Ty) → t.den → Mk → Pg t.den
  | .slice e t, x, .own r => .rd (kR r) fun
    | .row e' t' xs => match Ty.cast (.slice e t) (t := .slice e' t') xs with
      | some y => .ret y
      | none => .fail
    | _ => .fail
  | .slice _ _, _, .nil => .ret []
  | .pair a b, x, .pair m n => (full a x.1 m).bind fun y => (full b x.2 n).bind fun z => .ret (y, z)
  | _, x, _ => .ret x
/-- The own rows that a value leads to. -/
def idsT : Ty → Mk → List Nat
  | .slice _ _, .own r => [r]
  | .pair a b, m => idsT a m.fst ++ idsT b m.snd
  | _, _ => []
/-- All of its slices are own rows (or nil). -/
def ownable : Ty → Mk → Bool
  | .slice _ _, .own _ => true
  | .slice _ _, .nil => true
  | .slice _ _, _ => false
  | .pair a b, m => ownable a m.fst && ownable b m.snd
  | _, _ => true
def nodup : List Nat → Bool
  | [] => true
  | a :: l => !(l.contains a) && nodup l
/-- These rows are given away. -/
def drops : List Nat → Wr
  | [] => []
  | r :: l => (kR r, none) :: drops l
def rid (d j : Nat) : Nat := 8 * d + j

/-- Bit by bit. -/
def xorI (k : IntKind) (a b : Int) : Int := k.wrap (BitVec.ofInt k.bits a ^^^ BitVec.ofInt k.bits b).toNat
def andI (k : IntKind) (a b : Int) : Int := k.wrap (BitVec.ofInt k.bits a &&& BitVec.ofInt k.bits b).toNat
def orI (k : IntKind) (a b : Int) : Int := k.wrap (BitVec.ofInt k.bits a ||| BitVec.ofInt k.bits b).toNat
def arith (k : IntKind) : BinOp → Int → Int → Pg TV
  | .add, a, b => .ret (.v (.int k) (k.wrap (a + b)) .no)
  | .sub, a, b => .ret (.v (.int k) (k.wrap (a - b)) .no)
  | .mul, a, b => .ret (.v (.int k) (k.wrap (a * b)) .no)
  | .quo, a, b => .chk (!(decide (b = 0))) (.ret (.v (.int k) (k.wrap (a.tdiv b)) .no))
  | .rem, a, b => .chk (!(decide (b = 0))) (.ret (.v (.int k) (a.tmod b) .no))
  | .eql, a, b => .ret (.v .bool (a == b) .no)
  | .neq, a, b => .ret (.v .bool (a != b) .no)
  | .lss, a, b => .ret (.v .bool (decide (a < b)) .no)
  | .leq, a, b => .ret (.v .bool (decide (a ≤ b)) .no)
  | .gtr, a, b => .ret (.v .bool (decide (a > b)) .no)
  | .geq, a, b => .ret (.v .bool (decide (a ≥ b)) .no)
  | .xor, a, b => .ret (.v (.int k) (xorI k a b) .no)
  | .and, a, b => .ret (.v (.int k) (andI k a b) .no)
  | .or, a, b => .ret (.v (.int k) (orI k a b) .no)
  | _, _, _ => .fail
def texts : BinOp → ByteArray → ByteArray → Pg TV
  | .add, a, b => .chk (decide (a.size + b.size ≤ 9223372036854775807)) (.ret (.v .str (a ++ b) .no))
  | .eql, a, b => .ret (.v .bool (a.toList == b.toList) .no)
  | .neq, a, b => .ret (.v .bool (!(a.toList == b.toList)) .no)
  | .lss, a, b => .ret (.v .bool (Op.bytesLess a.toList b.toList) .no)
  | .leq, a, b => .ret (.v .bool (Op.bytesLess a.toList b.toList || a.toList == b.toList) .no)
  | .gtr, a, b => .ret (.v .bool (!(Op.bytesLess a.toList b.toList || a.toList == b.toList)) .no)
  | .geq, a, b => .ret (.v .bool (!(Op.bytesLess a.toList b.toList)) .no)
  | _, _, _ => .fail
/-- Two structs of numbers side by side. -/
def same2 : BinOp → Int × Int → Int × Int → Pg TV
  | .eql, a, b => .ret (.v .bool (a.1 == b.1 && a.2 == b.2) .no)
  | .neq, a, b => .ret (.v .bool (!(a.1 == b.1 && a.2 == b.2)) .no)
  | _, _, _ => .fail
def binTV (ty : Option Ty) (op : BinOp) : TV → TV → Pg TV
  | .v (.int k) a _, .v (.int k') b _ => .chk (kindEq k k') (arith k op a b)
  | .v .str a _, .v .str b _ => texts op a b
  | .v .bool a _, .v .bool b _ => match ty, op with
    | some .bool, .eql => .ret (.v .bool (a == b) .no)
    | some .bool, .neq => .ret (.v .bool (a != b) .no)
    | _, _ => .fail
  | .v (.pair (.int .i64) (.int .i64)) a _, .v (.pair (.int .i64) (.int .i64)) b _ => match ty with
    | some (.pair (.int .i64) (.int .i64)) => same2 op a b
    | _ => .fail
  | _, _ => .fail

/-- A shift to the right by a constant. -/
def shrBy : BinOp → Operand → Option Nat
  | .shr, .const (.int .u64 (.ofNat n)) => some n
  | _, _ => none
inductive AV where
  | val (t : Ty) (x : t.den)
  | ref (t : Ty) (x : t.den)
  | clo (f : Nat) (caps : List AV)
  | nil (e : Nat) (t : Ty)                 -- the nil slice
  | lend (t : Ty) (x : t.den) (m : Mk)      -- own rows that are lent: the callee may write into them
abbrev Dv := (t : Ty) × t.den
abbrev Ret := List Dv
/-- How a function's results are handed over: types and marks (own rows numbered from 0 on). -/
abbrev Sig := List (Ty × Mk)
inductive Req where
  | wr (w : Wr)
  | call (f : Nat) (args : List AV) (post : Ret → Wr)
def num (x : Operand) : Pg Int := (ev x).bind fun
  | .v (.int _) n _ => .ret n
  | _ => .fail
def num64 (x : Operand) : Pg Int := (ev x).bind fun
  | .v (.int .i64) n _ => .ret n
  | _ => .fail
def inRange (i : Int) (n : Nat) : Bool := decide (0 ≤ i) && decide (i < (n : Int))

/-- A struct's fields laid in, one behind the other. -/
def fillP (T : Tab) (S : Nat) (t : Ty) : List (Nat × Operand) → t.den → Mk → Pg (t.den × Mk)
  | [], x, m => .ret (x, m)
  | (i, o) :: r, x, m => match T.fp S i with
    | some p => (ev o).bind fun
      | .v t' y n => match setp t x m p t' y n with
        | some (x', m') => fillP T S t r x' m'
        | none => .fail
      | .nils => match getp t x m p with
        | some ⟨.slice _ _, _, .nil⟩ => fillP T S t r x m
        | _ => .fail
      | _ => .fail
    | none => .fail
/-- A row's elements, one behind the other, the rows that they lead to, and whether all of these are own ones. -/
def elemsP (T : Tab) (E : Nat) (t : Ty) (n : Nat) : List (Nat × Operand) → Pg (List t.den × List Nat × Bool)
  | [] => .ret ([], [], true)
  | (i, o) :: r => .chk (Nat.beq i n) ((evd T E o).bind fun ⟨t', y, m⟩ => (full t' y m).bind fun z => match Ty.cast t z with
    | some z => (elemsP T E t (n + 1) r).bind fun (l, d, b) => .ret (z :: l, idsT t' m ++ d, ownable t' m && b)
    | none => .fail)

/-- What a function value has captured: it is only read. -/
def capP : TV → Pg AV
  | .ref t x => .ret (.ref t x)
  | .box b [] => .rd (kB b) fun
    | .box t x m => (full t x m).bind fun y => .ret (.ref t y)
    | _ => .fail
  | _ => .fail
def capsP : List TV → Pg (List AV)
  | [] => .ret []
  | c :: r => (capP c).bind fun a => (capsP r).bind fun l => .ret (a :: l)
/-- An argument, handed over. -/
def argP : TV → Pg AV
  | .v (.slice e t) _ .nil => .ret (.nil e t)
  | .v t x m => (full t x m).bind fun y => .ret (.val t y)
  | .clo f caps => (capsP caps).bind fun c => .ret (.clo f c)
  | v => capP v
def isBox : TV → Bool
  | .box _ _ => true
  | _ => false
/-- Does it lead to what the frame may still write? -/
def loose : TV → Bool
  | .v t _ m => !((idsT t m).isEmpty)
  | .clo _ caps => caps.any isBox
  | v => isBox v
def argsP (T : Tab) : List Operand → List Nat → Pg (List AV × Bool)
  | [], _ => .ret ([], false)
  | x :: r, ts => (evt T (ts.headD 0) x).bind fun v => (argP v).bind fun a => (argsP T r ts.tail).bind fun (as, b) => .ret (a :: as, loose v || b)

/-- A result's own rows become rows of the frame. -/
def takeRows : (t : Ty) → t.den → Mk → Nat → Wr
  | .slice e t, x, .own j, d => [(kR (rid d j), some (.row e t x))]
  | .pair a b, x, .pair m n, d => takeRows a x.1 m d ++ takeRows b x.2 n d
  | _, _, _, _ => []
def Mk.shift (d : Nat) : Mk → Mk
  | .own j => .own (rid d j)
  | .pair a b => .pair (a.shift d) (b.shift d)
  | m => m
def takeVals (d : Nat) : Sig → Ret → Wr × List TV
  | (_, m) :: ms, ⟨t, x⟩ :: vs => let (w, l) := takeVals d ms vs; (takeRows t x m d ++ w, .v t x (m.shift d) :: l)
  | _, _ => ([], [])
def postOf (d : Nat) (ms : Sig) (r : Ret) : Wr :=
  (takeVals d ms r).1 ++ [(kT d, some (.tv (match (takeVals d ms r).2 with
    | [v] => v
    | vs => .tup vs)))]
def sigIds : Sig → List Nat
  | [] => []
  | (t, m) :: r => idsT t m ++ sigIds r
def resOk : Sig → Bool
  | [] => true
  | (t, m) :: r => ownable t m && resOk r
def freshP {α : Type} (d : Nat) : List Nat → Pg α → Pg α
  | [], p => p
  | j :: l, p => .fresh (kR (rid d j)) (freshP d l p)

abbrev Sigs := Nat → Option Sig
def sliceP (t : Ty) (x : t.den) (lo hi : Option Int) : Pg TV := match t, x with
  | .slice e t, xs =>
    match hi with
    | none => match lo with
      | none => .ret (.v (.slice e t) xs .no)
      | some l => .chk (decide (0 ≤ l) && decide (l ≤ (List.length (α := t.den) xs : Int))) (.ret (.v (.slice e t) (List.drop (α := t.den) l.toNat xs) .no))
    | some h => .chk (decide (0 ≤ h) && decide (h ≤ (List.length (α := t.den) xs : Int))) (match lo with
      | none => .ret (.v (.slice e t) (List.take (α := t.den) h.toNat xs) .no)
      | some l => .chk (decide (0 ≤ l) && decide (l ≤ h)) (.ret (.v (.slice e t) (List.drop (α := t.den) l.toNat (List.take (α := t.den) h.toNat xs)) .no)))
  | .str, s =>
    match lo, hi with
    | some l, some h => .chk (decide (0 ≤ h) && decide (h ≤ (ByteArray.size s : Int)) && (decide (0 ≤ l) && decide (l ≤ h))) (.ret (.v .str (ByteArray.extract s l.toNat h.toNat) .no))
    | _, _ => .fail
  | _, _ => .fail
def numO : Option Operand → Pg (Option Int)
  | none => .ret none
  | some x => (num x).bind fun n => .ret (some n)

def zeroO : Option Int → Bool
  | none => true
  | some n => decide (n = 0)
/-- A cut: of the nil slice; of an own row, from its begin; of what is only read. -/
def sliceM (d : Nat) (t : Ty) (y : t.den) (m : Mk) (lo hi : Option Operand) : Pg Req := match t, m with
  | .slice e t, .nil => (numO lo).bind fun l => (numO hi).bind fun h => .chk (zeroO l && zeroO h) (.ret (.wr [(kT d, some (.tv (.v (.slice e t) [] .nil)))]))
  | .slice e t, .own r => match lo, hi with
    | none, some h => (num h).bind fun n => .rd (kR r) fun
      | .row e' t' xs => .chk (Nat.beq e e' && t.beq t') (.chk (decide (0 ≤ n) && decide (n ≤ (List.length (α := t'.den) xs : Int))) (.fresh (kR (rid d 0))
        (.ret (.wr (drops [r] ++ [(kR (rid d 0), some (.row e' t' (List.take (α := t'.den) n.toNat xs))), (kT d, some (.tv (.v (.slice e' t') [] (.own (rid d 0)))))])))))
      | _ => .fail
    | _, _ => (full (.slice e t) y (.own r)).bind fun z => (numO lo).bind fun l => (numO hi).bind fun h => (sliceP (.slice e t) z l h).bind fun v => .ret (.wr ([(kT d, some (.tv v))] ++ drops (idsT (.slice e t) (.own r))))
  | t, m => .chk ((idsT t m).isEmpty) ((full t y m).bind fun z => (numO lo).bind fun l => (numO hi).bind fun h => (sliceP t z l h).bind fun v => .ret (.wr [(kT d, some (.tv v))]))
/-- The capacity of the nil slice. -/
def capEff (T : Tab) (o : Oper) (x : Operand) (S : Nat) : Pg Req := match o.dst with
  | some d => (evd T S x).bind fun
    | ⟨.slice _ _, _, .nil⟩ => .ret (.wr [(kT d, some (.tv (.v (.int .i64) (0 : Int) .no)))])
    | _ => .fail
  | none => .fail
def lenEff (T : Tab) (o : Oper) (x : Operand) (S : Nat) : Pg Req := match o.dst with
  | some d => (evd T S x).bind fun
    | ⟨.str, s, _⟩ => .ret (.wr [(kT d, some (.tv (.v (.int .i64) (ByteArray.size s : Int) .no)))])
    | ⟨.slice e t, y, m⟩ => (full (.slice e t) y m).bind fun z => .ret (.wr [(kT d, some (.tv (.v (.int .i64) (List.length (α := t.den) z : Int) .no)))])
    | _ => .fail
  | none => .fail
/-- Two lengths that a row can have together. -/
def fit (n m : Nat) : Bool := Nat.ble (n + m) 549755813888
theorem fit_of {n m : Nat} (h : n + m ≤ 549755813888) : fit n m = true := Nat.ble_eq_true_of_le h
theorem fit_le {n m : Nat} (h : fit n m = true) : n + m ≤ 549755813888 := Nat.le_of_ble_eq_true h
def takenIds (t t1 t2 : Ty) (m1 m2 : Mk) : List Nat := idsT t1 m1 ++ (match t.flat with
  | true => []
  | false => idsT t2 m2)
def appEff (T : Tab) (o : Oper) (s x : Operand) (S S' : Nat) : Pg Req := .chk (Nat.beq S S') (match o.dst, T.ty S with
  | some d, some (.slice e t) => (evd T S s).bind fun ⟨t1, y1, m1⟩ => (evd T S x).bind fun ⟨t2, y2, m2⟩ => (full t1 y1 m1).bind fun z1 => (full t2 y2 m2).bind fun z2 =>
      match Ty.cast (.slice e t) z1, Ty.cast (.slice e t) z2 with
      | some xs, some ys => .chk (ownable t1 m1 && (t.flat || ownable t2 m2) && nodup (takenIds t t1 t2 m1 m2)) (.chk (fit (List.length (α := t.den) xs) (List.length (α := t.den) ys)) (.fresh (kR (rid d 0))
        (.ret (.wr (drops (takenIds t t1 t2 m1 m2) ++ [(kR (rid d 0), some (.row e t (List.append (α := t.den) xs ys))), (kT d, some (.tv (.v (.slice e t) [] (.own (rid d 0)))))])))))
      | _, _ => .fail
  | _, _ => .fail)
/-- append(s, make([]T, n)...) -/
def zappEff (T : Tab) (o : Oper) (s x : Operand) (S : Nat) : Pg Req := match o.dst, T.ty S with
  | some d, some (.slice e t) => (evd T S s).bind fun ⟨t1, y1, m1⟩ => (num x).bind fun n => (full t1 y1 m1).bind fun z1 =>
      match Ty.cast (.slice e t) z1 with
      | some xs => .chk (ownable t1 m1) (.chk (decide (0 ≤ n)) (.chk (fit (List.length (α := t.den) xs) n.toNat) (.fresh (kR (rid d 0))
        (.ret (.wr (drops (idsT t1 m1) ++ [(kR (rid d 0), some (.row e t (List.append (α := t.den) xs (List.replicate n.toNat t.zero)))), (kT d, some (.tv (.v (.slice e t) [] (.own (rid d 0)))))]))))))
      | none => .fail
  | _, _ => .fail
def goEff0 (T : Tab) (G : Sigs) (o : Oper) (f : Operand) (xs : List Operand) (ts : List Nat) : Pg Req := match o.dst with
  | some d => (ev f).bind fun
    | .clo g caps => match G g with
      | some sg => (argsP T xs ts).bind fun (as, b) => (capsP caps).bind fun cs => .chk ((!(b || caps.any isBox) || resOk sg) && (nodup (sigIds sg) && (sigIds sg).all fun j => Nat.blt j 8))
        (freshP d (sigIds sg) (.ret (.call g (as ++ cs) (postOf d sg))))
      | none => .fail
    | _ => .fail
  | none => .fail
def isMark : Mk → Bool
  | .no => true
  | .nil => true
  | _ => false
/-- Arguments that are only read from now on. -/
def argsF (T : Tab) : List Operand → List Nat → Pg (List AV × List Nat)
  | [], _ => .ret ([], [])
  | x :: r, ts => (evt T (ts.headD 0) x).bind fun
    | .v t y m => (full t y m).bind fun z => (argsF T r ts.tail).bind fun (as, ids) => .ret (.val t z :: as, idsT t m ++ ids)
    | _ => .fail
def postB (d : Nat) (sg : Sig) (b : Nat) (ids : List Nat) : Ret → Wr
  | ⟨t, y⟩ :: rs => (postOf d sg rs ++ [(kB b, some (.box t y .no))]) ++ drops ids
  | [] => []
def goEffB (T : Tab) (G : Sigs) (o : Oper) (gn : Nat) (xs : List Operand) (ts : List Nat) : Pg Req := match o.dst, xs with
  | some d, x :: xs => match G gn with
    | some sg => (ev x).bind fun
      | .box b [] => .rd (kB b) fun
        | .box t y m => .chk ((idsT t m).isEmpty) ((full t y m).bind fun z => (argsF T xs ts.tail).bind fun (as, ids) => .chk (nodup ids && (nodup (sigIds sg) && (sigIds sg).all fun j => Nat.blt j 8))
            (freshP d (sigIds sg) (.ret (.call gn (.lend t z .no :: as) (postB d sg b ids)))))
        | _ => .fail
      | _ => .fail
    | none => .fail
  | _, _ => .fail
def postN (d : Nat) (ids : List Nat) : Ret → Wr
  | [⟨t, y⟩] => [(kB d, some (.box t y .no)), (kT d, some (.tv (.box d [])))] ++ drops ids
  | _ => []
def goEffN (T : Tab) (G : Sigs) (o : Oper) (gn : Nat) (xs : List Operand) (ts : List Nat) : Pg Req := match o.dst with
  | some d => match G gn with
    | some _ => (argsF T xs ts).bind fun (as, ids) => .chk (nodup ids) (.fresh (kB d) (.ret (.call gn (.lend .bool true .nil :: as) (postN d ids))))
    | none => .fail
  | none => .fail
/-- Own rows, numbered anew from n on in the order in which they stand; every slice is to be an own row. -/
def canonT : Ty → Mk → Nat → Option (Mk × Nat)
  | .slice _ _, .own _, n => some (.own n, n + 1)
  | .slice _ _, _, _ => none
  | .pair a b, m, n => match canonT a m.fst n with
    | some (m1, n1) => match canonT b m.snd n1 with
      | some (m2, n2) => some (.pair m1 m2, n2)
      | none => none
    | none => none
  | _, _, n => some (.no, n)
/-- What the rows hold by now. -/
def rowsOf : (t : Ty) → t.den → Mk → Wr
  | .slice e t, x, .own r => [(kR r, some (.row e t x))]
  | .pair a b, x, m => rowsOf a x.1 m.fst ++ rowsOf b x.2 m.snd
  | _, _, _ => []
def keptRows (t : Ty) (m : Mk) (t' : Ty) (y : t'.den) : Wr := match Ty.cast t y with
  | some z => rowsOf t z m
  | none => drops (idsT t m)
def postM (d : Nat) (t : Ty) (m : Mk) : Ret → Wr
  | [⟨.int .i64, n⟩, ⟨t', y⟩] => keptRows t m t' y ++ [(kT d, some (.tv (.v (.int .i64) n .no)))]
  | _ => []
def goEffM (T : Tab) (G : Sigs) (o : Oper) (gn : Nat) (xs : List Operand) (ts : List Nat) : Pg Req := match o.dst, xs with
  | some d, [x, k] => match G gn with
    | some _ => (evt T (ts.headD 0) x).bind fun
      | .v t z m => (num64 k).bind fun n => (full t z m).bind fun u => match canonT t m 0 with
        | some (m0, _) => .chk (nodup (idsT t m) && !(isMark m0)) (.ret (.call gn [.lend t u m0, .val (.int .i64) n] (postM d t m)))
        | none => .fail
      | _ => .fail
    | none => .fail
  | _, _ => .fail
def giveP (t : Ty) (y : t.den) (m : Mk) (n : Nat) : Pg (AV × Nat × List Nat) := (full t y m).bind fun z => match (idsT t m).isEmpty with
  | true => .ret (.val t z, n, [])
  | false => match canonT t m n with
    | some (m0, n') => .ret (.lend t z m0, n', idsT t m)
    | none => .fail
def argsG (T : Tab) : Nat → List Operand → List Nat → Pg (List AV × List Nat)
  | _, [], _ => .ret ([], [])
  | n, x :: r, ts => (evt T (ts.headD 0) x).bind fun
    | .v t y m => (giveP t y m n).bind fun (a, n', ids) => (argsG T n' r ts.tail).bind fun (as, ids') => .ret (a :: as, ids ++ ids')
    | _ => .fail
def goEffG (T : Tab) (G : Sigs) (o : Oper) (gn : Nat) (xs : List Operand) (ts : List Nat) : Pg Req := match o.dst, xs with
  | some d, x :: xs => match G gn with
    | some sg => (ev x).bind fun
      | .box b [] => .rd (kB b) fun
        | .box t y m => .chk ((idsT t m).isEmpty) ((full t y m).bind fun z => (argsG T 0 xs ts.tail).bind fun (as, ids) => .chk (nodup ids && (nodup (sigIds sg) && (sigIds sg).all fun j => Nat.blt j 8))
            (freshP d (sigIds sg) (.ret (.call gn (.lend t z .no :: as) (postB d sg b ids)))))
        | _ => .fail
      | _ => .fail
    | none => .fail
  | _, _ => .fail
/-- Without a pointer: the list begins with a mark. -/
def givenMark : AV := .lend .bool false (.own 0)
def postV (d : Nat) (sg : Sig) (ids : List Nat) (r : Ret) : Wr := postOf d sg r ++ drops ids
def goEffV (T : Tab) (G : Sigs) (o : Oper) (gn : Nat) (xs : List Operand) (ts : List Nat) : Pg Req := match o.dst with
  | some d => match G gn with
    | some sg => (argsG T 0 xs ts).bind fun (as, ids) => .chk (nodup ids && (nodup (sigIds sg) && (sigIds sg).all fun j => Nat.blt j 8))
        (freshP d (sigIds sg) (.ret (.call gn (givenMark :: as) (postV d sg ids))))
    | none => .fail
  | none => .fail
def postS (d : Nat) (t : Ty) (m : Mk) : Ret → Wr
  | [⟨t', y⟩] => keptRows t m t' y ++ [(kT d, some (.tv (.tup [])))]
  | _ => []
def goEffS (T : Tab) (G : Sigs) (o : Oper) (gn : Nat) (xs : List Operand) (ts : List Nat) : Pg Req := match o.dst, xs with
  | some d, [x] => match G gn with
    | some _ => (evt T (ts.headD 0) x).bind fun
      | .v t z m => (full t z m).bind fun u => match canonT t m 0 with
        | some (m0, _) => .chk (nodup (idsT t m) && (!(isMark m0) && !(t.beq .bool))) (.ret (.call gn [.lend t u m0] (postS d t m)))
        | none => .fail
      | _ => .fail
    | none => .fail
  | _, _ => .fail
def hasN : List Nat → Nat → Bool
  | [], _ => false
  | k :: l, n => match Nat.beq k n with
    | true => true
    | false => hasN l n
def goEff (T : Tab) (G : Sigs) (o : Oper) (f : Operand) (xs : List Operand) (ts : List Nat) : Pg Req := match f with
  | .func g => match hasN T.gives g with
   | true => match hasN T.ptrs g with
    | true => goEffG T G o g xs ts
    | false => match hasN T.lends g with
      | true => goEffS T G o g xs ts
      | false => goEffV T G o g xs ts
   | false => match hasN T.lends g with
    | true => goEffM T G o g xs ts
    | false => match hasN T.ptrs g with
      | true => goEffB T G o g xs ts
      | false => match hasN T.news g with
        | true => goEffN T G o g xs ts
        | false => goEff0 T G o f xs ts
  | _ => goEff0 T G o f xs ts
def callEff (T : Tab) (G : Sigs) (o : Oper) (c : Call) : Pg Req := match c.callee with
  | .builtin .len => match c.args.toList, c.argTypes.toList with
    | [x], [S] => lenEff T o x S
    | _, _ => .fail
  | .builtin .cap => match c.args.toList, c.argTypes.toList with
    | [x], [S] => capEff T o x S
    | _, _ => .fail
  | .builtin .append => match c.args.toList, c.argTypes.toList with
    | [s, x], [S, S'] => match T.ty S' with
      | some (.int _) => zappEff T o s x S
      | _ => appEff T o s x S S'
    | _, _ => .fail
  | .value f => goEff T G o f c.args.toList c.argTypes.toList
  | _ => .fail

def opEff (T : Tab) (G : Sigs) (o : Oper) : Pg Req := match o.op with
  | .move x | .assign x => match o.dst with
    | some d => (evt T o.type x).bind fun v => .ret (.wr [(kT d, some (.tv v))])
    | none => .fail
  | .pick c a b => match o.dst with
    | some d => (ev c).bind fun
      | .v .bool x _ => (evt T o.type (match x with | true => a | false => b)).bind fun v => .ret (.wr [(kT d, some (.tv v))])
      | _ => .fail
    | none => .fail
  | .alloc E => match o.dst, T.ty E with
    | some d, some t => .fresh (kB d) (.ret (.wr [(kB d, some (.box t t.zero t.zmk)), (kT d, some (.tv (.box d [])))]))
    | _, _ => .fail
  | .box E x => match o.dst with
    | some d => (evd T E x).bind fun ⟨t, y, m⟩ => .fresh (kB d) (.ret (.wr [(kB d, some (.box t y m)), (kT d, some (.tv (.box d [])))]))
    | none => .fail
  | .build S parts => match o.dst, T.ty S with
    | some d, some (.pair a b) => let t : Ty := .pair a b; (fillP T S t parts.toList t.zero t.zmk).bind fun (x, m) => .ret (.wr [(kT d, some (.tv (.v t x m)))])
    | _, _ => .fail
  | .buildSlice S n parts => match o.dst, T.ty S with
    | some d, some (.slice e t) => .chk (Nat.beq parts.size n && Nat.ble (n * t.sz) 16777216) ((elemsP T e t 0 parts.toList).bind fun (l, ids, own) => match own with
      | true => .chk (nodup ids) (.fresh (kR (rid d 0))
        (.ret (.wr (drops ids ++ [(kR (rid d 0), some (.row e t l)), (kT d, some (.tv (.v (.slice e t) [] (.own (rid d 0)))))]))))
      | false => .ret (.wr (drops ids ++ [(kT d, some (.tv (.v (.slice e t) l .no)))])))
    | _, _ => .fail
  | .load L a => match o.dst, T.ty L with
    | some d, some t => (ev a).bind fun
      | .box b p => .rd (kB b) fun
        | .box t0 x m => match getp t0 x m p with
          | some ⟨t', y, m'⟩ => .chk (t'.beq t) (.ret (.wr [(kT d, some (.tv (.v t' y m')))]))
          | none => .fail
        | _ => .fail
      | .ref t' y => .chk (t'.beq t) (.ret (.wr [(kT d, some (.tv (.v t' y .no)))]))
      | .elt r i p => .rd (kR r) fun
        | .row _ t0 xs => .chk (inRange i xs.length) (match getp t0 (xs.getD i.toNat t0.zero) .no p with
          | some ⟨t', y, _⟩ => .chk (t'.beq t && t'.flat) (.ret (.wr [(kT d, some (.tv (.v t' y .no)))]))
          | none => .fail)
        | _ => .fail
      | _ => .fail
    | _, _ => .fail
  | .store L a x => match o.dst with
    | none => (ev a).bind fun
      | .box b p => .rd (kB b) fun
        | .box t0 y m => (evd T L x).bind fun ⟨t', z, n⟩ => match setp t0 y m p t' z n with
          | some (y', m') => .ret (.wr [(kB b, some (.box t0 y' m'))])
          | none => .fail
        | _ => .fail
      | .elt r i p => .rd (kR r) fun
        | .row e t0 xs => (evd T L x).bind fun ⟨t', z, n⟩ => .chk (ownable t' n && nodup (idsT t' n) && !((idsT t' n).contains r) && (t0.flat || p.isEmpty || t'.flat)) ((full t' z n).bind fun z' => .chk (inRange i xs.length)
          (match setp t0 (xs.getD i.toNat t0.zero) .no p t' z' .no with
            | some (y', _) => .ret (.wr (drops (idsT t' n) ++ [(kR r, some (.row e t0 (xs.set i.toNat y')))]))
            | none => .fail))
        | _ => .fail
      | _ => .fail
    | some _ => .fail
  | .binOp op t x y _ => match o.dst with
    | some d => match shrBy op y with
      | some n => (ev x).bind fun
        | .v (.int k) a _ => .chk (Nat.ble n k.bits) (.ret (.wr [(kT d, some (.tv (.v (.int k) (a / 2 ^ n) .no)))]))
        | _ => .fail
      | none => (evt T t x).bind fun a => (evt T t y).bind fun b => (binTV (T.ty t) op a b).bind fun c => .ret (.wr [(kT d, some (.tv c))])
    | none => .fail
  | .nilCheck x => match o.dst with
    | some d => (ev x).bind fun
      | .box b p => .ret (.wr [(kT d, some (.tv (.box b p)))])
      | _ => .fail
    | none => .fail
  | .unOp op _ x => match o.dst, op with
    | some d, .not => (ev x).bind fun
      | .v .bool b _ => .ret (.wr [(kT d, some (.tv (.v .bool (!b) .no)))])
      | _ => .fail
    | _, _ => .fail
  | .convert S D x => match o.dst, T.ty S, T.ty D with
    | some d, some (.int _), some (.int k) => (ev x).bind fun
      | .v (.int _) n _ => .ret (.wr [(kT d, some (.tv (.v (.int k) (k.wrap n) .no)))])
      | _ => .fail
    | some d, some .str, some (.slice e (.int .u8)) => (ev x).bind fun
      | .v .str s _ => .chk (decide ((ByteArray.size s : Int) ≤ 549755813888)) (.ret (.wr [(kT d, some (.tv (.v (.slice e (.int .u8)) (bytesOf s) .no)))]))
      | _ => .fail
    | some d, some (.slice e (.int .u8)), some .str => (evd T S x).bind fun ⟨t, y, m⟩ => (full t y m).bind fun z => match Ty.cast (.slice e (.int .u8)) z with
      | some l => .ret (.wr [(kT d, some (.tv (.v .str (strOfNums l) .no)))])
      | none => .fail
    | _, _, _ => .fail
  | .makeFunc (.func f) first caps => match o.dst, first.toList with
    | some d, [] => (capsT caps.toList).bind fun l => .ret (.wr [(kT d, some (.tv (.clo f l)))])
    | _, _ => .fail
  | .makeSlice S l c => match o.dst, T.ty S with
    | some d, some (.slice e t) => (num64 l).bind fun n => .chk (sameOp l c && (decide (0 ≤ n) && decide (n ≤ 549755813888))) (.fresh (kR (rid d 0))
        (.ret (.wr [(kR (rid d 0), some (.row e t (List.replicate n.toNat t.zero))), (kT d, some (.tv (.v (.slice e t) [] (.own (rid d 0)))))])))
    | _, _ => .fail
  | .slice S x lo hi none => match o.dst with
    | some d => (evd T S x).bind fun ⟨t, y, m⟩ => sliceM d t y m lo hi
    | none => .fail
  | .field S x f => match o.dst, T.fp S f with
    | some d, some p => (evd T S x).bind fun ⟨t, y, m⟩ => match getp t y m p with
      | some ⟨t', z, m'⟩ => .ret (.wr [(kT d, some (.tv (.v t' z m')))])
      | none => .fail
    | _, _ => .fail
  | .fieldAddr S x f => match o.dst, T.fp S f with
    | some d, some p => (ev x).bind fun
      | .box b q => .rd (kB b) fun
        | .box t0 x0 m0 => match getp t0 x0 m0 q, T.ty S with
          | some ⟨t1, _, _⟩, some t2 => .chk (t1.beq t2) (.ret (.wr [(kT d, some (.tv (.box b (q ++ p))))]))
          | _, _ => .fail
        | _ => .fail
      | .ref t y => match getp t y .no p, T.ty S with
        | some ⟨t', z, _⟩, some t2 => .chk (t.beq t2) (.ret (.wr [(kT d, some (.tv (.ref t' z)))]))
        | _, _ => .fail
      | .elt r i q => .rd (kR r) fun
        | .row _ t0 xs => match getp t0 t0.zero .no q, T.ty S with
          | some ⟨t1, _, _⟩, some t2 => .chk (t1.beq t2) (.ret (.wr [(kT d, some (.tv (.elt r i (q ++ p))))]))
          | _, _ => .fail
        | _ => .fail
      | _ => .fail
    | _, _ => .fail
  | .indexAddr S x i => match o.dst, T.ty S with
    | some d, some (.slice e t) => (evd T S x).bind fun ⟨t', y, m⟩ => (num i).bind fun n => match m with
      | .own r => .rd (kR r) fun
        | .row _ t0 xs => .chk (t0.beq t && inRange n xs.length) (.ret (.wr [(kT d, some (.tv (.elt r n [])))]))
        | _ => .fail
      | .no => match Ty.cast (.slice e t) y with
        | some xs => .chk (inRange n (List.length (α := t.den) xs)) (.ret (.wr [(kT d, some (.tv (.ref t (List.getD (α := t.den) xs n.toNat t.zero))))]))
        | none => .fail
      | _ => .fail
    | _, _ => .fail
  | .index S x i => match o.dst, T.ty S with
    | some d, some .str => (ev x).bind fun
      | .v .str s _ => (num i).bind fun n => .chk (inRange n s.size) (.ret (.wr [(kT d, some (.tv (.v (.int .u8) (bt s n) .no)))]))
      | _ => .fail
    | _, _ => .fail
  | .extract x n => match o.dst with
    | some d => (ev x).bind fun
      | .tup l => match l[n]? with
        | some v => .ret (.wr [(kT d, some (.tv v))])
        | none => .fail
      | _ => .fail
    | none => .fail
  | .call c => callEff T G o c
  | _ => .fail
  where
  capsT : List Operand → Pg (List TV)
    | [] => .ret []
    | x :: r => (ev x).bind fun v => (capsT r).bind fun l => .ret (v :: l)
  sameOp : Operand → Operand → Bool
    | .tmp a, .tmp b => Nat.beq a b
    | _, _ => false

end Go.Proofs.YtcmjbplnjjdcdaaGreat.Ref

namespace Go.Proofs.YtcmjbplnjjdcdaaGreat.Ref
open Go.RowKit Go.Proofs.YtcmjbplnjjdcdaaGreatW.PrintWords Go.Proofs.YtcmjbplnjjdcdaaGreatW.PrintLast

/-- The functions that are called, each handing on its answer. -/
abbrev Orac := Nat → List AV → (Ret → Option Ret) → Option Ret
abbrev KSt := St → Option Ret

/-- Where a key holds a truth value that isn't known yet, both ways. -/
def splitKey (k : Nat) (st : St) (K : KSt) : Option Ret := match get st k with
  | some (.tv (.v .bool x m)) => cond x (K ((k, some (.tv (.v .bool true m))) :: st)) (K ((k, some (.tv (.v .bool false m))) :: st))
  | _ => K st
def guardKey (ops : List Oper) (o : Oper) : Option Nat := match o.guard with
  | none => none
  | some (j, _) => match ops[j]? with
    | some g => match g.dst with
      | some d => some (kT d)
      | none => none
    | none => none
def pickKey (o : Oper) : Option Nat := match o.op with
  | .pick (.tmp c) _ _ => some (kT c)
  | _ => none
def splitO (k : Option Nat) (st : St) (K : KSt) : Option Ret := match k with
  | some k => splitKey k st K
  | none => K st
def isB (b c : Bool) : Bool := match b, c with
  | true, true => true
  | false, false => true
  | _, _ => false
/-- Is the operation carried out? -/
def wants (ops : List Oper) (o : Oper) (st : St) : Option Bool := match o.guard with
  | none => some true
  | some (_, want) => match guardKey ops o with
    | some k => match get st k with
      | some (.tv (.v .bool x _)) => some (isB x want)
      | some (.tv .undef) => some false
      | _ => none
    | none => none
def passWr (o : Oper) : Wr := match o.dst with
  | some d => [(kT d, some (.tv .undef))]
  | none => []
/-- Is it a call of a function value? -/
def callOf (o : Oper) : Option (Operand × Call) := match o.op with
  | .call c => match c.callee with
    | .value f => some (f, c)
    | _ => none
  | _ => none
/-- One operation: what it writes, what it has read. -/
def opK (T : Tab) (G : Sigs) (O : Orac) (o : Oper) (st : St) (K : Wr → List Nat → Option Ret) : Option Ret := match callOf o with
  | some (f, c) => (goEff T G o f c.args.toList c.argTypes.toList).runK st [] fun q l => match q with
    | .wr _ => none
    | .call f as post => O f as fun r => K (post r) l
  | none => (opEff T G o).runK st [] fun q l => match q with
    | .wr w => K w l
    | .call _ _ _ => none
def keyO : Option Nat → List Nat
  | some k => [k]
  | none => []
def stepK (T : Tab) (G : Sigs) (O : Orac) (ops : List Oper) (o : Oper) (st : St) (K : St → Wr → List Nat → Option Ret) : Option Ret :=
  splitO (guardKey ops o) st fun st => splitO (pickKey o) st fun st => match wants ops o st with
    | some true => opK T G O o st fun w l => K st w (keyO (guardKey ops o) ++ l)
    | some false => K st (passWr o) (keyO (guardKey ops o))
    | none => none
/-- Both ways give this. -/
noncomputable def both {α : Type} (a b : Option α) : Option α := open Classical in if a = b then a else none
theorem both_some {α : Type} {a b : Option α} {r : α} (h : both a b = some r) : a = some r ∧ b = some r := by
  unfold both at h
  split at h
  · rename_i e
    exact ⟨h, e ▸ h⟩
  · cases h
theorem both_self {α : Type} (a : Option α) : both a a = a := by unfold both; rw [if_pos rfl]
/-- A slice laid beside nil: the slot, what is answered where it is nil, the type, the slice. -/
def nilTest (o : Oper) : Option (Nat × Bool × Nat × Operand) := match o.op, o.guard, o.dst with
  | .binOp .eql S x (.const (.slice none 0 0)) _, none, some d => some (d, true, S, x)
  | .binOp .neq S x (.const (.slice none 0 0)) _, none, some d => some (d, false, S, x)
  | _, _, _ => none
def nilKnown : Ty → Mk → Bool
  | .slice _ _, .nil => true
  | _, _ => false
def emptyV : (t : Ty) → t.den → Option Bool
  | .slice _ t, xs => some (List.isEmpty (α := t.den) xs)
  | _, _ => none
/-- Is the slice nil? An empty one may be: both ways. -/
noncomputable def nilK (T : Tab) (b : Bool) (S : Nat) (x : Operand) (st : St) (K : Bool → Option Ret) : Option Ret :=
  (evd T S x).runK st [] fun q _ => (full q.1 q.2.1 q.2.2).runK st [] fun z _ => cond (nilKnown q.1 q.2.2) (K b) (match emptyV q.1 z with
    | some e => cond e (both (K b) (K (!b))) (K (!b))
    | none => none)
def notTmp (d : Nat) : Operand → Bool
  | .tmp t => !(Nat.beq t d)
  | _ => true
structure Fuse where
  d1 : Nat
  d2 : Nat
  d3 : Nat
  L : Nat
  a : Operand
  x : Operand
  f : Nat
def fuse3 (T : Tab) (o1 o2 o3 : Oper) : Option Fuse := match o1.op, o1.guard, o1.dst, o2.op, o2.guard, o2.dst with
  | .load L a, none, some d1, .move x, none, some d2 => match callOf o3, o3.guard, o3.dst with
    | some (.func f, c), none, some d3 => match c.args.toList with
      | [.tmp b1, .tmp b2] => cond (hasN T.lends f && (Nat.beq b1 d1 && (Nat.beq b2 d2 && (!(Nat.beq d1 d2) && notTmp d1 x)))) (some ⟨d1, d2, d3, L, a, x, f⟩) none
      | _ => none
    | _, _, _ => none
  | _, _, _, _, _, _ => none
def fuseOf (T : Tab) (o1 : Oper) : List Oper → Option Fuse
  | o2 :: o3 :: _ => fuse3 T o1 o2 o3
  | _ => none
/-- Beside the part nothing else leads anywhere. -/
def lone : Ty → List Bool → Bool
  | _, [] => true
  | .pair a b, false :: p => lone a p && b.flat
  | .pair a b, true :: p => a.flat && lone b p
  | _, _ => false
structure Bor where
  r : Nat
  e0 : Nat
  t0 : Ty
  xs : List t0.den
  i : Int
  p : List Bool
  e : Nat
  t : Ty
  y : List t.den
  k : Int
def borP (T : Tab) (G : Sigs) (u : Fuse) : Pg Bor := (ev u.a).bind fun
  | .elt r i p => .rd (kR r) fun
    | .row e0 t0 xs => .chk (lone t0 p) (.chk (inRange i xs.length) (match getp t0 (xs.getD i.toNat t0.zero) .no p with
      | some ⟨.slice e t, y, _⟩ => match T.ty u.L, G u.f with
        | some tL, some _ => .chk ((Ty.slice e t).beq tL && t.flat) ((num64 u.x).bind fun k => .ret ⟨r, e0, t0, xs, i, p, e, t, y, k⟩)
        | _, _ => .fail
      | _ => .fail))
    | _ => .fail
  | _ => .fail
def borK (u : Fuse) (b : Bor) (K : Wr → Option Ret) : Ret → Option Ret
  | [⟨.int .i64, n⟩, ⟨t', z⟩] => match Ty.cast (.slice b.e b.t) z with
    | some z => match setp b.t0 (b.xs.getD b.i.toNat b.t0.zero) .no b.p (.slice b.e b.t) z .no with
      | some (x', _) => K [(kR b.r, some (.row b.e0 b.t0 (b.xs.set b.i.toNat x'))), (kT u.d3, some (.tv (.v (.int .i64) n .no))), (kT u.d2, some (.tv (.v (.int .i64) b.k .no))), (kT u.d1, none)]
      | none => none
    | none => none
  | _ => none
/-- Is it an element of an own row? -/
def isElt (a : Operand) (st : St) : Bool := match (ev a).run st with
  | some (.elt _ _ _, _) => true
  | _ => false
def fusing (T : Tab) (o : Oper) (l : List Oper) (st : St) : Option Fuse := match fuseOf T o l with
  | some u => match isElt u.a st with
    | true => some u
    | false => none
  | none => none
structure FuseL where
  d1 : Nat
  d2 : Nat
  L : Nat
  a : Operand
  f : Nat
def fuseL2 (T : Tab) (o1 o2 : Oper) : Option FuseL := match o1.op, o1.guard, o1.dst with
  | .load L a, none, some d1 => match callOf o2, o2.guard, o2.dst with
    | some (.func f, c), none, some d2 => match c.args.toList with
      | [.tmp b1] => cond (Nat.beq b1 d1) (some ⟨d1, d2, L, a, f⟩) none
      | _ => none
    | _, _, _ => none
  | _, _, _ => none
def leadsOn (T : Tab) (L : Nat) : Bool := match T.ty L with
  | some t => !t.flat
  | none => false
def fusingL (T : Tab) (o : Oper) (l : List Oper) (st : St) : Option FuseL := match l with
  | o2 :: _ => match fuseL2 T o o2 with
    | some u => match leadsOn T u.L with
      | true => match isElt u.a st with
        | true => some u
        | false => none
      | false => none
    | none => none
  | [] => none
def loadL (T : Tab) (G : Sigs) (u : FuseL) : Pg (Dv × Sig) := (ev u.a).bind fun
  | .elt r i p => .rd (kR r) fun
    | .row _ t0 xs => .chk (inRange i xs.length) (match getp t0 (xs.getD i.toNat t0.zero) .no p with
      | some ⟨t, y, _⟩ => match T.ty u.L, G u.f with
        | some tL, some sg => .chk (t.beq tL && (resOk sg && (nodup (sigIds sg) && (sigIds sg).all fun j => Nat.blt j 8))) (freshP u.d2 (sigIds sg) (.ret (⟨t, y⟩, sg)))
        | _, _ => .fail
      | none => .fail)
    | _ => .fail
  | _ => .fail
noncomputable def runOps (T : Tab) (G : Sigs) (O : Orac) (ops : List Oper) : List Oper → Nat → St → KSt → Option Ret
  | [], _, st, K => K st
  | _ :: r, s + 1, st, K => runOps T G O ops r s st K
  | o :: r, 0, st, K => match nilTest o with
    | some (d, b, S, x) => nilK T b S x st fun u => runOps T G O ops r 0 ((kT d, some (.tv (.v .bool u .no))) :: st) K
    | none => match fusing T o r st with
      | some u => (borP T G u).runK st [] fun b _ => O u.f [.lend (.slice b.e b.t) b.y (.own 0), .val (.int .i64) b.k] (borK u b fun wr => runOps T G O ops r 2 (wr ++ st) K)
      | none => match fusingL T o r st with
        | some u => (loadL T G u).runK st [] fun b _ => O u.f [.val b.1.1 b.1.2] (fun q => runOps T G O ops r 1 ((postOf u.d2 b.2 q ++ [(kT u.d1, none)]) ++ st) K)
        | none => stepK T G O ops o st fun st w _ => runOps T G O ops r 0 (w ++ st) K

/-- What each operation waits for, as bits. -/
def bMasks : List (List Nat × List Nat) → List Nat → List Nat
  | [], B => B
  | r :: T, B => bMasks T (B ++ [upM B B.length r.1])
def meets (a b : List Nat) : Bool := a.any fun k => b.contains k
def keysOf : Wr → List Nat
  | [] => []
  | (k, _) :: w => k :: keysOf w
/-- Operation j (what it waits for: m) stands behind those of the list: whom it meets it waits for. -/
def apartAll (m : Nat) (rj wj : List Nat) : List (Nat × List Nat × List Nat) → Bool
  | [] => true
  | (i, ri, wi) :: l => (m.testBit i || !(meets wi rj || meets wi wj || meets ri wj)) && apartAll m rj wj l
def drawOk (ops : Array Oper) (B : List Nat) : Bool :=
  let T := rtab .any ops
  waitsOk T.2 B && baseOk T.2 (List.range ops.size)
def runDraw (T : Tab) (G : Sigs) (O : Orac) (ops : List Oper) (B : List Nat) : Nat → List Oper → List (Nat × List Nat × List Nat) → St → KSt → Option Ret
  | _, [], _, st, K => K st
  | j, o :: r, E, st, K => stepK T G O ops o st fun st w l => cond (apartAll (B.getD j 0) l (keysOf w) E) (runDraw T G O ops B (j + 1) r ((j, l, keysOf w) :: E) (w ++ st) K) none

structure Keep where
  slots : List (Nat × Bool)     -- a slot; does it keep its own rows?
  boxes : List (Nat × Bool)
abbrev Ann := Nat → Keep
/-- Rows by their new numbers: the old number (none: a nil slice), what they hold. -/
abbrev Ren := List (Nat × Option Nat × Val)
def renW : Ren → Wr
  | [] => []
  | (q, _, v) :: R => (kR q, some v) :: renW R
def news : Ren → List Nat
  | [] => []
  | (q, _, _) :: R => q :: news R
def olds : Ren → List Nat
  | [] => []
  | (_, some r, _) :: R => r :: olds R
  | (_, none, _) :: R => olds R
/-- A value's own rows, moved to where the loop keeps them. -/
def moveP : (t : Ty) → t.den → Mk → (d j : Nat) → Pg (Mk × Ren × Nat)
  | .slice e t, x, .own r, d, j => .rd (kR r) fun
    | .row e' t' xs => .ret (.own (rid d j), [(rid d j, some r, .row e' t' xs)], j + 1)
    | _ => .fail
  | .slice e t, x, .nil, d, j => .ret (.own (rid d j), [(rid d j, none, .row e t [])], j + 1)
  | .pair a b, x, .pair m n, d, j => (moveP a x.1 m d j).bind fun (m', w, j') => (moveP b x.2 n d j').bind fun (n', w', j'') => .ret (.pair m' n', w ++ w', j'')
  | _, _, m, _, j => .ret (m, [], j)
def refBox : TV → Bool
  | .ref _ _ => true
  | .box _ _ => true
  | _ => false
/-- The data of what is one's own stands in its rows. -/
def blankD : (t : Ty) → t.den → Mk → t.den
  | .slice _ _, _, .own _ => []
  | .pair a b, x, .pair m n => (blankD a x.1 m, blankD b x.2 n)
  | _, x, _ => x
/-- Kept: the value, its rows, the rows that are only read from now on. -/
def keepTV (d : Nat) (own : Bool) : TV → Pg (TV × Ren × List Nat)
  | .v t x m => match own with
    | true => (moveP t x m d 0).bind fun (m', w, _) => .ret (.v t (blankD t x m') m', w, [])
    | false => (full t x m).bind fun y => .ret (.v t y .no, [], idsT t m)
  | .box b p => .ret (.box b p, [], [])
  | .ref t x => .ret (.ref t x, [], [])
  | .clo f caps => .chk (caps.all refBox) (.ret (.clo f caps, [], []))
  | _ => .fail
def boxIn : TV → List Nat
  | .box b _ => [b]
  | _ => []
def boxesIn : TV → List Nat
  | .clo _ caps => caps.flatMap boxIn
  | v => boxIn v
def hasBox (bs : List (Nat × Bool)) (b : Nat) : Bool := bs.any fun y => Nat.beq y.1 b
def keepSlots (bs : List (Nat × Bool)) : List (Nat × Bool) → Pg (St × Ren × List Nat)
  | [] => .ret ([], [], [])
  | (s, own) :: r => .rd (kT s) fun
    | .tv v => .chk ((boxesIn v).all (hasBox bs)) ((keepTV s own v).bind fun (v', w, l) => (keepSlots bs r).bind fun (S, w', l') => .ret ((kT s, some (.tv v')) :: S, w ++ w', l ++ l'))
    | _ => .fail
def keepBox (b : Nat) (own : Bool) (t : Ty) (x : t.den) (m : Mk) : Pg (Val × Ren × List Nat) := match own with
  | true => (moveP t x m b 0).bind fun (m', w, _) => .ret (.box t (blankD t x m') m', w, [])
  | false => (full t x m).bind fun y => .ret (.box t y .no, [], idsT t m)
def keepBoxes : List (Nat × Bool) → Pg (St × Ren × List Nat)
  | [] => .ret ([], [], [])
  | (b, own) :: r => .rd (kB b) fun
    | .box t x m => (keepBox b own t x m).bind fun (v, w, l) => (keepBoxes r).bind fun (S, w', l') => .ret ((kB b, some v) :: S, w ++ w', l ++ l')
    | _ => .fail
def norm (kp : Keep) : Pg St := (keepSlots kp.boxes kp.slots).bind fun (S, w, l) => (keepBoxes kp.boxes).bind fun (S', w', l') => .chk (nodup (news (w ++ w')) && nodup (olds (w ++ w')) && !(meets (l ++ l') (olds (w ++ w')))) (.ret (S ++ S' ++ renW (w ++ w')))

noncomputable def run (T : Tab) (G : Sigs) (O : Orac) (A : Ann) (n : Nat) : Code → Nat → KSt → (Nat → KSt) → KSt → KSt
  | .skip, _, nrm, _, _, st => nrm st
  | .region _ ops false, _, nrm, _, _, st => runOps T G O ops.toList ops.toList 0 st nrm
  | .region _ ops true, _, nrm, _, _, st => cond (drawOk ops (bMasks (rtab .any ops).2 [])) (runDraw T G O ops.toList (bMasks (rtab .any ops).2 []) 0 ops.toList [] st nrm) none
  | .seq a b, lp, nrm, brk, ret, st => run T G O A n a lp (fun st => run T G O A n b lp nrm brk ret st) brk ret st
  | .cond c a b, lp, nrm, brk, ret, st => (ev c).runK st [] fun v _ => match v with
    | .v .bool x _ => cond x (run T G O A n a lp nrm brk ret st) (run T G O A n b lp nrm brk ret st)
    | _ => none
  | .block id c, _, nrm, brk, ret, st => run T G O A n c id nrm (fun id' st => cond (Nat.beq id' id) (nrm st) (brk id' st)) ret st
  | .loop c, lp, _, brk, ret, st => (norm (A lp)).runK st [] fun st' _ =>
      Nat.rec (motive := fun _ => KSt) (fun _ => none) (fun _ ih st => run T G O A n c lp (fun s => (norm (A lp)).runK s [] fun s' _ => ih s') brk ret st) n st'
  | .exit id, _, _, brk, _, st => brk id st
  | .ret, _, _, _, ret, st => ret st
  | _, _, _, _, _, _ => none

/-- A result: its rows that are to be the caller's own are told, by the signature's numbers; and those that are only read. -/
def retV : (t : Ty) → t.den → Mk → Mk → Pg (t.den × Ren × List Nat)
  | .slice e t, x, .own r, .own j => .rd (kR r) fun
    | .row e' t' xs => match Ty.cast (.slice e t) (t := .slice e' t') xs with
      | some y => .ret (y, [(j, some r, .row e' t' xs)], [])
      | none => .fail
    | _ => .fail
  | .slice e t, _, .nil, .own j => .ret ([], [(j, none, .row e t [])], [])
  | .slice _ _, _, _, .own _ => .fail
  | .pair a b, x, .pair m n, .pair p q => (retV a x.1 m p).bind fun (y, R, l) => (retV b x.2 n q).bind fun (z, R', l') => .ret ((y, z), R ++ R', l ++ l')
  | .pair _ _, _, _, .pair _ _ => .fail
  | t, x, m, .no => (full t x m).bind fun y => .ret (y, [], idsT t m)
  | _, _, _, _ => .fail
def retBox (sg : Ty × Mk) (t0 : Option Ty) (t : Ty) (x : t.den) (m : Mk) : Pg (Dv × Ren × List Nat) := match t0 with
  | some t' => .chk (t.beq t' && t.beq sg.1) ((retV t x m sg.2).bind fun (y, R, l) => .ret (⟨t, y⟩, R, l))
  | none => .fail
def retOne (T : Tab) (sg : Ty × Mk) : ResultVar → Pg (Dv × Ren × List Nat)
  | .tmp t => .rd (kT t) fun
    | .tv (.v t x m) => .chk (t.beq sg.1) ((retV t x m sg.2).bind fun (y, R, l) => .ret (⟨t, y⟩, R, l))
    | _ => .fail
  | .cell a n => .rd (kT a) fun
    | .tv (.box b []) => .rd (kB b) fun
      | .box t x m => retBox sg (T.ty n) t x m
      | _ => .fail
    | _ => .fail
def retAll (T : Tab) : Sig → List ResultVar → Pg (List Dv × Ren × List Nat)
  | [], [] => .ret ([], [], [])
  | s :: ss, r :: rs => (retOne T s r).bind fun (v, R, l) => (retAll T ss rs).bind fun (vs, R', l') => .ret (v :: vs, R ++ R', l ++ l')
  | _, _ => .fail
def retP (T : Tab) (fn : Func) (sg : Sig) : Pg Ret := (retAll T sg fn.results.toList).bind fun (vs, R, l) => .chk (nodup (news R) && nodup (olds R) && !(meets l (olds R))) (.ret vs)
def enterTV : AV → TV
  | .val t x => .v t x .no
  | .ref t x => .ref t x
  | .clo f caps => .clo f (enterTVs caps)
  | .nil e t => .v (.slice e t) [] .nil
  | .lend _ _ _ => .undef
  where enterTVs : List AV → List TV
  | [] => []
  | a :: r => enterTV a :: enterTVs r
def enterArgs : List AV → Nat → St
  | [], _ => []
  | a :: r, i => (kT i, some (.tv (enterTV a))) :: enterArgs r (i + 1)
def retK (T : Tab) (fn : Func) (sg : Sig) : KSt := fun st => (retP T fn sg).runK st [] fun r _ => some r
noncomputable def absF (T : Tab) (G : Sigs) (O : Orac) (A : Ann) (fn : Func) (sg : Sig) (K : Nat) (as : List AV) : Option Ret :=
  match fn.body with
  | some c => cond (Nat.ble as.length fn.ntmps) (run T G O A K c 0 (retK T fn sg) (fun _ _ => none) (retK T fn sg) (enterArgs as 0)) none
  | none => none

end Go.Proofs.YtcmjbplnjjdcdaaGreat.Ref

namespace Go.Proofs.YtcmjbplnjjdcdaaGreat.Ref
open Go.RowKit Go.Proofs.YtcmjbplnjjdcdaaGreatW.PrintWords Go.Proofs.YtcmjbplnjjdcdaaGreatW.PrintLast

theorem kT_inj {i j : Nat} (h : kT i = kT j) : i = j := by unfold kT at h; omega
theorem kB_inj {i j : Nat} (h : kB i = kB j) : i = j := by unfold kB at h; omega
theorem kR_inj {i j : Nat} (h : kR i = kR j) : i = j := by unfold kR at h; omega
theorem kT_kB (i j : Nat) : kT i ≠ kB j := by unfold kT kB; omega
theorem kT_kR (i j : Nat) : kT i ≠ kR j := by unfold kT kR; omega
theorem kB_kR (i j : Nat) : kB i ≠ kR j := by unfold kB kR; omega
theorem get_cons_same (k : Nat) (v : Option Val) (st : St) : get ((k, v) :: st) k = v := by simp [get]
theorem nbeq_ne {k' k : Nat} (h : k' ≠ k) : Nat.beq k' k = false := by
  cases e : Nat.beq k' k with
  | false => rfl
  | true => exact absurd (Nat.eq_of_beq_eq_true e) h
theorem get_cons_ne {k k' : Nat} (v : Option Val) (st : St) (h : k' ≠ k) : get ((k', v) :: st) k = get st k := by
  have := nbeq_ne h
  simp [get, this]
theorem dom_cons_same (k : Nat) (v : Option Val) (st : St) : dom ((k, v) :: st) k = true := by simp [dom]
theorem dom_cons_ne {k k' : Nat} (v : Option Val) (st : St) (h : k' ≠ k) : dom ((k', v) :: st) k = dom st k := by
  have := nbeq_ne h
  simp [dom, this]
theorem dom_of_get {st : St} {k : Nat} {v : Val} (h : get st k = some v) : dom st k = true := by
  induction st with
  | nil => simp [get] at h
  | cons p st ih =>
    obtain ⟨k', v'⟩ := p
    by_cases hk : k' = k
    · subst hk; exact dom_cons_same _ _ _
    · rw [get_cons_ne _ _ hk] at h
      rw [dom_cons_ne _ _ hk]
      exact ih h
theorem dom_app (wr st : St) (k : Nat) : dom (wr ++ st) k = (dom wr k || dom st k) := by
  induction wr with
  | nil => simp [dom]
  | cons p wr ih =>
    obtain ⟨k', v'⟩ := p
    by_cases hk : k' = k
    · subst hk; simp [dom_cons_same]
    · rw [List.cons_append, dom_cons_ne _ _ hk, dom_cons_ne _ _ hk, ih]
theorem get_app_out {wr st : St} {k : Nat} (h : dom wr k = false) : get (wr ++ st) k = get st k := by
  induction wr with
  | nil => rfl
  | cons p wr ih =>
    obtain ⟨k', v'⟩ := p
    by_cases hk : k' = k
    · subst hk; rw [dom_cons_same] at h; cases h
    · rw [dom_cons_ne _ _ hk] at h
      rw [List.cons_append, get_cons_ne _ _ hk, ih h]
theorem get_app_in {wr st : St} {k : Nat} (h : dom wr k = true) : get (wr ++ st) k = get wr k := by
  induction wr with
  | nil => simp [dom] at h
  | cons p wr ih =>
    obtain ⟨k', v'⟩ := p
    by_cases hk : k' = k
    · subst hk; rw [List.cons_append, get_cons_same, get_cons_same]
    · rw [dom_cons_ne _ _ hk] at h
      rw [List.cons_append, get_cons_ne _ _ hk, get_cons_ne _ _ hk, ih h]

/-- Which block is a variable's, which slice value, which blocks are a row's. -/
structure Gh where
  β : Nat → Nat
  τ : Nat → Ty
  ρ : Nat → Value
  σ : Nat → Ty
  S : Nat → Nat → Prop

/-- The cells 'cs' say x (marks m) in memory w; what is only read lies in blocks of ok. -/
def VR (g : Gh) (D : Nat → Bool) (w : World) (ok : Nat → Prop) : (t : Ty) → t.den → Mk → List Value → Prop
  | .slice _ _, _, .own r, cs => cs = [g.ρ r] ∧ D (kR r) = true
  | .slice _ _, _, .nil, cs => cs = [.slice none 0 0]
  | .pair a b, x, .pair m n, cs => ∃ c0 c1, cs = c0 ++ c1 ∧ VR g D w ok a x.1 m c0 ∧ VR g D w ok b x.2 n c1
  | t, x, _, cs => Kd.FK t.kd w ok x cs

def Cells (W : World) (a : Addr) (cs : List Value) : Prop := ∀ j u, cs[j]? = some u → W.cell? (a.add j) = some u

mutual
def TVR (g : Gh) (D : Nat → Bool) (w : World) (ok : Nat → Prop) : TV → Value → Prop
  | .v t x m, v => ∃ cs, v = valOf t cs ∧ VR g D w ok t x m cs
  | .nils, v => v = .slice none 0 0
  | .undef, v => v = undef
  | .box b p, v => v = .pointer (some ⟨g.β b, offp (g.τ b) p, none⟩) ∧ D (kB b) = true
  | .ref t x, v => ∃ a cs, v = .pointer (some a) ∧ Foot (fun W => t.kd.K W x cs ∧ Cells W a cs) w ok
  | .elt r i p, v => ∃ b n c, g.ρ r = .slice (some ⟨b, 0, none⟩) n c ∧ v = .pointer (some ⟨b, i.toNat * (g.σ r).sz + offp (g.σ r) p, none⟩) ∧ D (kR r) = true
  | .clo f caps, v => ∃ vs : List Value, v = .func (.func f) #[] vs.toArray ∧ TVRs g D w ok caps vs
  | .tup l, v => ∃ vs : List Value, v = .tuple vs.toArray ∧ TVRs g D w ok l vs
  | .nilp, v => v = .pointer none
def TVRs (g : Gh) (D : Nat → Bool) (w : World) (ok : Nat → Prop) : List TV → List Value → Prop
  | [], vs => vs = []
  | t :: ts, vs => ∃ v vs', vs = v :: vs' ∧ TVR g D w ok t v ∧ TVRs g D w ok ts vs'
end

def BoxR (g : Gh) (D : Nat → Bool) (w : World) (ok : Nat → Prop) (b : Nat) (t : Ty) (x : t.den) (m : Mk) : Prop :=
  g.τ b = t ∧ ∃ cs ty, w.heap[g.β b]? = some (.cells cs.toArray ty (0, 0)) ∧ VR g D w ok t x m cs
def RowR (g : Gh) (w : World) (r e : Nat) (t : Ty) (xs : List t.den) : Prop :=
  g.σ r = t ∧ Kd.S t.kd e w 0 (g.S r) (g.ρ r) xs

/-- What stays: the ghost's word on all keys that are known, the blocks that are only read. -/
structure Mv (g g' : Gh) (D D' : Nat → Bool) (w w' : World) (ok ok' : Nat → Prop) : Prop where
  d : ∀ k, D k = true → D' k = true
  β : ∀ b, D (kB b) = true → g'.β b = g.β b
  τ : ∀ b, D (kB b) = true → g'.τ b = g.τ b
  ρ : ∀ r, D (kR r) = true → g'.ρ r = g.ρ r
  σ : ∀ r, D (kR r) = true → g'.σ r = g.σ r
  same : ∀ k, ok k → k < w.heap.size → w'.heap[k]? = w.heap[k]?
  ok : ∀ k, ok k → k < w.heap.size → ok' k

theorem Foot.mv {P : World → Prop} {w w' : World} {ok ok' : Nat → Prop} (h : Foot P w ok) (hs : ∀ k, ok k → k < w.heap.size → w'.heap[k]? = w.heap[k]?) (ho : ∀ k, ok k → k < w.heap.size → ok' k) : Foot P w' ok' :=
  fun W' hW => h W' (fun k hk hlt => (hW k (ho k hk hlt) (heap_lt (hs k hk hlt) hlt)).trans (hs k hk hlt))

section
variable {g g' : Gh} {D D' : Nat → Bool} {w w' : World} {ok ok' : Nat → Prop}
theorem VR.mv (M : Mv g g' D D' w w' ok ok') : ∀ {t : Ty} {x : t.den} {m : Mk} {cs : List Value}, VR g D w ok t x m cs → VR g' D' w' ok' t x m cs
  | .slice _ _, _, .own r, _, h => by
    simp only [VR] at h ⊢
    exact ⟨by rw [h.1, M.ρ r h.2], M.d _ h.2⟩
  | .slice _ _, _, .nil, _, h => by
    simp only [VR] at h ⊢
    exact h
  | .pair a b, x, .pair m n, _, h => by
    simp only [VR] at h ⊢
    obtain ⟨c0, c1, e, h0, h1⟩ := h
    exact ⟨c0, c1, e, VR.mv M h0, VR.mv M h1⟩
  | .slice _ _, _, .no, _, h => by simp only [VR] at h ⊢; exact Foot.mv h M.same M.ok
  | .slice _ _, _, .pair _ _, _, h => by simp only [VR] at h ⊢; exact Foot.mv h M.same M.ok
  | .pair _ _, _, .no, _, h => by simp only [VR] at h ⊢; exact Foot.mv h M.same M.ok
  | .pair _ _, _, .nil, _, h => by simp only [VR] at h ⊢; exact Foot.mv h M.same M.ok
  | .pair _ _, _, .own _, _, h => by simp only [VR] at h ⊢; exact Foot.mv h M.same M.ok
  | .int _, _, _, _, h => by simp only [VR] at h ⊢; exact Foot.mv h M.same M.ok
  | .bool, _, _, _, h => by simp only [VR] at h ⊢; exact Foot.mv h M.same M.ok
  | .str, _, _, _, h => by simp only [VR] at h ⊢; exact Foot.mv h M.same M.ok

mutual
theorem TVR.mv (M : Mv g g' D D' w w' ok ok') : ∀ {t : TV} {v : Value}, TVR g D w ok t v → TVR g' D' w' ok' t v
  | .v t x m, v, h => by
    simp only [TVR] at h ⊢
    obtain ⟨cs, e, h⟩ := h
    exact ⟨cs, e, VR.mv M h⟩
  | .nils, v, h => by simp only [TVR] at h ⊢; exact h
  | .undef, v, h => by simp only [TVR] at h ⊢; exact h
  | .nilp, v, h => by simp only [TVR] at h ⊢; exact h
  | .box b p, v, h => by
    simp only [TVR] at h ⊢
    exact ⟨by rw [h.1, M.β b h.2, M.τ b h.2], M.d _ h.2⟩
  | .ref t x, v, h => by
    simp only [TVR] at h ⊢
    obtain ⟨a, cs, e, h⟩ := h
    exact ⟨a, cs, e, Foot.mv h M.same M.ok⟩
  | .elt r i p, v, h => by
    simp only [TVR] at h ⊢
    obtain ⟨b, n, c, e, e', hd⟩ := h
    exact ⟨b, n, c, by rw [M.ρ r hd, e], by rw [M.σ r hd, e'], M.d _ hd⟩
  | .clo f caps, v, h => by
    simp only [TVR] at h ⊢
    obtain ⟨vs, e, h⟩ := h
    exact ⟨vs, e, TVRs.mv M h⟩
  | .tup l, v, h => by
    simp only [TVR] at h ⊢
    obtain ⟨vs, e, h⟩ := h
    exact ⟨vs, e, TVRs.mv M h⟩
theorem TVRs.mv (M : Mv g g' D D' w w' ok ok') : ∀ {ts : List TV} {vs : List Value}, TVRs g D w ok ts vs → TVRs g' D' w' ok' ts vs
  | [], vs, h => by simp only [TVRs] at h ⊢; exact h
  | t :: ts, vs, h => by
    simp only [TVRs] at h ⊢
    obtain ⟨v, vs', e, h1, h2⟩ := h
    exact ⟨v, vs', e, TVR.mv M h1, TVRs.mv M h2⟩
end
end

def Alive (st : St) (k : Nat) : Prop := ∃ v, get st k = some v
/-- The blocks that may still be written. -/
def Mut (g : Gh) (st : St) (k : Nat) : Prop := (∃ b, Alive st (kB b) ∧ g.β b = k) ∨ (∃ r, Alive st (kR r) ∧ g.S r k)
/-- What stands fast for a frame: the memory that it began in, what its arguments lead to, what it may write of that. -/
structure Fx where
  w0 : World
  ok0 : Nat → Prop
  lent : Nat → Prop
  n : Nat
  np : Nat
  arg : Nat → Value
def Fx.ok (F : Fx) (g : Gh) (st : St) (k : Nat) : Prop := (F.ok0 k ∨ F.w0.heap.size ≤ k ∨ F.lent k) ∧ ¬ Mut g st k
/-- The slots that may be written: not those of the arguments that are to stay. -/
def Fx.slot (F : Fx) (d : Nat) : Prop := F.np ≤ d ∧ d < F.n

structure Rel (F : Fx) (g : Gh) (st : St) (a : Act) (w : World) : Prop where
  size : a.tmps.size = F.n
  keep : ∀ i, i < F.np → a.tmps.getD i undef = F.arg i
  defers : a.defers = []
  os : w.os = F.w0.os
  tape : w.tape = F.w0.tape
  output : w.output = F.w0.output
  grow : F.w0.heap.size ≤ w.heap.size
  frame : ∀ k, k < F.w0.heap.size → ¬ F.lent k → w.heap[k]? = F.w0.heap[k]?
  tmps : ∀ i v, get st (kT i) = some v → ∃ tv, v = .tv tv ∧ TVR g (dom st) w (F.ok g st) tv (a.tmps.getD i undef)
  boxes : ∀ b v, get st (kB b) = some v → ∃ t x m, v = .box t x m ∧ BoxR g (dom st) w (F.ok g st) b t x m
  rows : ∀ r v, get st (kR r) = some v → ∃ e t xs, v = .row e t xs ∧ RowR g w r e t xs
  isl : ∀ r, dom st (kR r) = true → (g.ρ r).oneCell' = true
  newB : ∀ b, Alive st (kB b) → F.w0.heap.size ≤ g.β b ∨ F.lent (g.β b)
  newR : ∀ r, Alive st (kR r) → ∀ k, g.S r k → (F.w0.heap.size ≤ k ∨ F.lent k) ∧ k < w.heap.size
  dBB : ∀ b b', Alive st (kB b) → Alive st (kB b') → g.β b = g.β b' → b = b'
  dBR : ∀ b r, Alive st (kB b) → Alive st (kR r) → ¬ g.S r (g.β b)
  dRR : ∀ r r', Alive st (kR r) → Alive st (kR r') → r ≠ r' → ∀ k, g.S r k → ¬ g.S r' k

end Go.Proofs.YtcmjbplnjjdcdaaGreat.Ref

namespace Go.Proofs.YtcmjbplnjjdcdaaGreat.Ref
open Go.RowKit Go.Proofs.YtcmjbplnjjdcdaaGreatW.PrintWords Go.Proofs.YtcmjbplnjjdcdaaGreatW.PrintLast

theorem alive_app_out {wr st : St} {k : Nat} (h : dom wr k = false) : Alive (wr ++ st) k ↔ Alive st k := by unfold Alive; rw [get_app_out h]
theorem alive_app_in {wr st : St} {k : Nat} (h : dom wr k = true) : Alive (wr ++ st) k ↔ Alive wr k := by unfold Alive; rw [get_app_in h]
theorem dom_of_alive {st : St} {k : Nat} (h : Alive st k) : dom st k = true := by obtain ⟨v, h⟩ := h; exact dom_of_get h
theorem heap_some_lt {w : World} {k : Nat} {o : Obj} (h : w.heap[k]? = some o) : k < w.heap.size := (Array.getElem?_eq_some_iff.1 h).1
theorem Rel.boxLt {F : Fx} {g : Gh} {st : St} {a : Act} {w : World} (h : Rel F g st a w) {b : Nat} (hb : Alive st (kB b)) : g.β b < w.heap.size := by
  obtain ⟨v, hv⟩ := hb
  obtain ⟨t, x, m, _, _, cs, ty, hh, _⟩ := h.boxes b v hv
  exact heap_some_lt hh
theorem Rel.mutLt {F : Fx} {g : Gh} {st : St} {a : Act} {w : World} (h : Rel F g st a w) {k : Nat} (hk : Mut g st k) : k < w.heap.size := by
  rcases hk with ⟨b, hb, rfl⟩ | ⟨r, hr, hk⟩
  · exact h.boxLt hb
  · exact (h.newR r hr k hk).2

theorem Rel.upd {F : Fx} {g : Gh} {st : St} {a : Act} {w : World} (h : Rel F g st a w) (g' : Gh) (wr : Wr) (a' : Act) (w' : World) (X : Nat → Prop)
    (hsz : a'.tmps.size = F.n) (hnp : ∀ i, i < F.np → dom wr (kT i) = false) (hdf : a'.defers = []) (hos : w'.os = w.os) (htp : w'.tape = w.tape) (hout : w'.output = w.output) (hgrow : w.heap.size ≤ w'.heap.size)
    (hX : ∀ k, k < w.heap.size → ¬ X k → w'.heap[k]? = w.heap[k]?) (hXm : ∀ k, X k → Mut g st k)
    (hβ : ∀ b, dom st (kB b) = true → g'.β b = g.β b) (hτ : ∀ b, dom st (kB b) = true → g'.τ b = g.τ b)
    (hρ : ∀ r, dom st (kR r) = true → g'.ρ r = g.ρ r) (hσ : ∀ r, dom st (kR r) = true → g'.σ r = g.σ r)
    (hS : ∀ r, Alive st (kR r) → dom wr (kR r) = false → g'.S r = g.S r)
    (hMut : ∀ k, k < w.heap.size → Mut g' (wr ++ st) k → Mut g st k)
    (hXB : ∀ b, Alive st (kB b) → dom wr (kB b) = false → ¬ X (g.β b))
    (hXR : ∀ r, Alive st (kR r) → dom wr (kR r) = false → ∀ k, g.S r k → ¬ X k)
    (hT0 : ∀ i, dom wr (kT i) = false → a'.tmps.getD i undef = a.tmps.getD i undef)
    (hT1 : Mv g g' (dom st) (dom (wr ++ st)) w w' (F.ok g st) (F.ok g' (wr ++ st)) → ∀ i v, get wr (kT i) = some v → ∃ tv, v = .tv tv ∧ TVR g' (dom (wr ++ st)) w' (F.ok g' (wr ++ st)) tv (a'.tmps.getD i undef))
    (hB1 : Mv g g' (dom st) (dom (wr ++ st)) w w' (F.ok g st) (F.ok g' (wr ++ st)) → ∀ b v, get wr (kB b) = some v → ∃ t x m, v = .box t x m ∧ BoxR g' (dom (wr ++ st)) w' (F.ok g' (wr ++ st)) b t x m ∧ (F.w0.heap.size ≤ g'.β b ∨ F.lent (g'.β b)))
    (hR1 : ∀ r v, get wr (kR r) = some v → ∃ e t xs, v = .row e t xs ∧ RowR g' w' r e t xs ∧ ∀ k, g'.S r k → (F.w0.heap.size ≤ k ∨ F.lent k) ∧ k < w'.heap.size)
    (hI : ∀ r, dom wr (kR r) = true → (g'.ρ r).oneCell' = true)
    (dBB : ∀ b b', Alive (wr ++ st) (kB b) → Alive (wr ++ st) (kB b') → g'.β b = g'.β b' → b = b')
    (dBR : ∀ b r, Alive (wr ++ st) (kB b) → Alive (wr ++ st) (kR r) → ¬ g'.S r (g'.β b))
    (dRR : ∀ r r', Alive (wr ++ st) (kR r) → Alive (wr ++ st) (kR r') → r ≠ r' → ∀ k, g'.S r k → ¬ g'.S r' k) :
    Rel F g' (wr ++ st) a' w' := by
  have hmv : Mv g g' (dom st) (dom (wr ++ st)) w w' (F.ok g st) (F.ok g' (wr ++ st)) := {
    d := fun k hk => by rw [dom_app, hk, Bool.or_true]
    β := hβ, τ := hτ, ρ := hρ, σ := hσ
    same := fun k hk hlt => hX k hlt (fun hx => hk.2 (hXm k hx))
    ok := fun k hk hlt => ⟨hk.1, fun hm => hk.2 (hMut k hlt hm)⟩ }
  have hXnew : ∀ k, X k → F.w0.heap.size ≤ k ∨ F.lent k := by
    intro k hk
    rcases hXm k hk with ⟨b, hb, rfl⟩ | ⟨r, hr, hk⟩
    · exact h.newB b hb
    · exact (h.newR r hr k hk).1
  refine { size := hsz, keep := fun i hi => (hT0 i (hnp i hi)).trans (h.keep i hi), defers := hdf, os := hos.trans h.os, tape := htp.trans h.tape, output := hout.trans h.output, grow := Nat.le_trans h.grow hgrow, frame := ?_, tmps := ?_, boxes := ?_, rows := ?_, isl := ?_, newB := ?_, newR := ?_, dBB := dBB, dBR := dBR, dRR := dRR }
  · intro k hk hl
    refine (hX k (Nat.lt_of_lt_of_le hk h.grow) (fun hx => ?_)).trans (h.frame k hk hl)
    rcases hXnew k hx with h1 | h1
    · omega
    · exact hl h1
  · intro i v hv
    cases hd : dom wr (kT i) with
    | true => rw [get_app_in hd] at hv; exact hT1 hmv i v hv
    | false =>
      rw [get_app_out hd] at hv
      obtain ⟨tv, e, ht⟩ := h.tmps i v hv
      exact ⟨tv, e, by rw [hT0 i hd]; exact TVR.mv hmv ht⟩
  · intro b v hv
    cases hd : dom wr (kB b) with
    | true =>
      rw [get_app_in hd] at hv
      obtain ⟨t, x, m, e, hb, _⟩ := hB1 hmv b v hv
      exact ⟨t, x, m, e, hb⟩
    | false =>
      rw [get_app_out hd] at hv
      obtain ⟨t, x, m, e, ht, cs, ty, hh, hc⟩ := h.boxes b v hv
      have hdb := dom_of_get hv
      refine ⟨t, x, m, e, (hτ b hdb).trans ht, cs, ty, ?_, VR.mv hmv hc⟩
      rw [hβ b hdb, hX _ (heap_some_lt hh) (hXB b ⟨v, hv⟩ hd), hh]
  · intro r v hv
    cases hd : dom wr (kR r) with
    | true =>
      rw [get_app_in hd] at hv
      obtain ⟨e, t, xs, h1, h2, _⟩ := hR1 r v hv
      exact ⟨e, t, xs, h1, h2⟩
    | false =>
      rw [get_app_out hd] at hv
      obtain ⟨e, t, xs, h1, h2, h3⟩ := h.rows r v hv
      have hdr := dom_of_get hv
      refine ⟨e, t, xs, h1, (hσ r hdr).trans h2, ?_⟩
      rw [hρ r hdr, hS r ⟨v, hv⟩ hd]
      exact Kd.S_step h3 (fun k hk hlt => hX k hlt (hXR r ⟨v, hv⟩ hd k hk))
  · intro r hr
    cases hd : dom wr (kR r) with
    | true => exact hI r hd
    | false =>
      rw [dom_app, hd, Bool.false_or] at hr
      rw [hρ r hr]
      exact h.isl r hr
  · intro b hb
    cases hd : dom wr (kB b) with
    | true =>
      rw [alive_app_in hd] at hb
      obtain ⟨v, hv⟩ := hb
      obtain ⟨_, _, _, _, _, h1⟩ := hB1 hmv b v hv
      exact h1
    | false =>
      rw [alive_app_out hd] at hb
      rw [hβ b (dom_of_alive hb)]
      exact h.newB b hb
  · intro r hr k hk
    cases hd : dom wr (kR r) with
    | true =>
      rw [alive_app_in hd] at hr
      obtain ⟨v, hv⟩ := hr
      obtain ⟨_, _, _, _, _, h1⟩ := hR1 r v hv
      exact h1 k hk
    | false =>
      rw [alive_app_out hd] at hr
      rw [hS r hr hd] at hk
      have := h.newR r hr k hk
      exact ⟨this.1, Nat.lt_of_lt_of_le this.2 hgrow⟩

theorem put_size (a : Act) (d : Option Tmp) (v : Value) : (a.put d v).tmps.size = a.tmps.size := by cases d <;> simp [Act.put]
theorem put_defers (a : Act) (d : Option Tmp) (v : Value) : (a.put d v).defers = a.defers := by cases d <;> simp [Act.put]
theorem put_same {a : Act} {d : Nat} {v : Value} (h : d < a.tmps.size) : (a.put (some d) v).tmps.getD d undef = v := by
  simp [Act.put, Array.getD_eq_getD_getElem?, Array.getElem?_setIfInBounds, h]
theorem put_ne {a : Act} {d i : Nat} {v : Value} (h : i ≠ d) : (a.put (some d) v).tmps.getD i undef = a.tmps.getD i undef := by
  simp [Act.put, Array.getD_eq_getD_getElem?, Array.getElem?_setIfInBounds, Ne.symm h]

theorem mut_app_T {g : Gh} {st : St} {wr : Wr} (hB : ∀ b, dom wr (kB b) = false) (hR : ∀ r, dom wr (kR r) = false) (k : Nat) : Mut g (wr ++ st) k ↔ Mut g st k := by
  unfold Mut
  constructor
  · rintro (⟨b, hb, e⟩ | ⟨r, hr, e⟩)
    · exact .inl ⟨b, (alive_app_out (hB b)).1 hb, e⟩
    · exact .inr ⟨r, (alive_app_out (hR r)).1 hr, e⟩
  · rintro (⟨b, hb, e⟩ | ⟨r, hr, e⟩)
    · exact .inl ⟨b, (alive_app_out (hB b)).2 hb, e⟩
    · exact .inr ⟨r, (alive_app_out (hR r)).2 hr, e⟩
theorem dom_one_ne {k k' : Nat} (v : Option Val) (h : k' ≠ k) : dom [(k', v)] k = false := by rw [dom_cons_ne _ _ h]; rfl

theorem Rel.put {F : Fx} {g : Gh} {st : St} {a : Act} {w : World} (h : Rel F g st a w) {d : Nat} (hd : F.slot d) {tv : TV} {v : Value} {w' : World}
    (hh : w'.heap = w.heap) (hos : w'.os = w.os) (htp : w'.tape = w.tape) (hout : w'.output = w.output) (ht : TVR g (dom st) w (F.ok g st) tv v) :
    Rel F g ((kT d, some (.tv tv)) :: st) (a.put (some d) v) w' := by
  have hB : ∀ b, dom [(kT d, some (Val.tv tv))] (kB b) = false := fun b => dom_one_ne _ (kT_kB d b)
  have hR : ∀ r, dom [(kT d, some (Val.tv tv))] (kR r) = false := fun r => dom_one_ne _ (kT_kR d r)
  refine h.upd g [(kT d, some (.tv tv))] _ w' (fun _ => False) (by rw [put_size, h.size]) (fun i hi => dom_one_ne _ (fun e => by have h1 := kT_inj e; have h2 := hd.1; omega)) (by rw [put_defers, h.defers]) hos htp hout (by rw [hh]; exact Nat.le_refl _) (fun k _ _ => by rw [hh])
    (fun _ hk => hk.elim) (fun _ _ => rfl) (fun _ _ => rfl) (fun _ _ => rfl) (fun _ _ => rfl) (fun _ _ _ => rfl) (fun k _ hm => (mut_app_T hB hR k).1 hm) (fun _ _ _ hk => hk) (fun _ _ _ _ _ hk => hk) ?_ ?_ ?_ ?_ (fun r hr => by rw [hR r] at hr; cases hr) ?_ ?_ ?_
  · intro i hi
    refine put_ne (fun e => ?_)
    subst e
    rw [dom_cons_same] at hi; cases hi
  · intro hmv i v' hv
    by_cases e : i = d
    · subst e
      rw [get_cons_same] at hv
      injection hv with hv
      subst hv
      exact ⟨tv, rfl, by rw [put_same (by rw [h.size]; exact hd.2)]; exact TVR.mv hmv ht⟩
    · rw [get_cons_ne _ _ (fun e' => e (kT_inj e').symm)] at hv
      cases hv
  · intro _ b v' hv
    rw [get_cons_ne _ _ (kT_kB d b)] at hv
    cases hv
  · intro r v' hv
    rw [get_cons_ne _ _ (kT_kR d r)] at hv
    cases hv
  · intro b b' hb hb' e
    rw [alive_app_out (hB b)] at hb
    rw [alive_app_out (hB b')] at hb'
    exact h.dBB b b' hb hb' e
  · intro b r hb hr
    rw [alive_app_out (hB b)] at hb
    rw [alive_app_out (hR r)] at hr
    exact h.dBR b r hb hr
  · intro r r' hr hr' hne
    rw [alive_app_out (hR r)] at hr
    rw [alive_app_out (hR r')] at hr'
    exact h.dRR r r' hr hr' hne

/-- A draw. -/
theorem Rel.drew {F : Fx} {g : Gh} {st : St} {a : Act} {w : World} (h : Rel F g st a w) : Rel F g st a w.drew := by
  obtain ⟨h1, h1', h2, h3, h4, h5, h6, h7, h8, h9, h10, h10', h11, h12, h13, h14, h15⟩ := h
  have M : Mv g g (dom st) (dom st) w w.drew (F.ok g st) (F.ok g st) := ⟨fun _ h => h, fun _ _ => rfl, fun _ _ => rfl, fun _ _ => rfl, fun _ _ => rfl, fun _ _ _ => rfl, fun _ h _ => h⟩
  refine ⟨h1, h1', h2, h3, h4, h5, h6, h7, ?_, ?_, ?_, h10', h11, h12, h13, h14, h15⟩
  · intro i v hv
    obtain ⟨tv, e, ht⟩ := h8 i v hv
    exact ⟨tv, e, TVR.mv M ht⟩
  · intro b v hv
    obtain ⟨t, x, m, e, ht, cs, ty, hh, hc⟩ := h9 b v hv
    exact ⟨t, x, m, e, ht, cs, ty, hh, VR.mv M hc⟩
  · intro r v hv
    obtain ⟨e, t, xs, h1, h2, h3⟩ := h10 r v hv
    exact ⟨e, t, xs, h1, h2, Kd.S_step h3 (fun _ _ _ => rfl)⟩

end Go.Proofs.YtcmjbplnjjdcdaaGreat.Ref

namespace Go.Proofs.YtcmjbplnjjdcdaaGreat.Ref
open Go.RowKit Go.Proofs.YtcmjbplnjjdcdaaGreatW.PrintWords Go.Proofs.YtcmjbplnjjdcdaaGreatW.PrintLast

theorem kd_sz : ∀ t : Ty, t.kd.sz = t.sz
  | .int _ => rfl
  | .bool => rfl
  | .str => rfl
  | .slice _ _ => rfl
  | .pair a b => by
    show a.kd.sz + b.kd.sz = a.sz + b.sz
    rw [kd_sz a, kd_sz b]
theorem sz_pos : ∀ t : Ty, 0 < t.sz
  | .int _ => Nat.zero_lt_one
  | .bool => Nat.zero_lt_one
  | .str => Nat.zero_lt_one
  | .slice _ _ => Nat.zero_lt_one
  | .pair a b => by
    have := sz_pos a
    show 0 < a.sz + b.sz
    omega
theorem cast_some {t t' : Ty} {x : t.den} {y : t'.den} (h : Ty.cast t' x = some y) : ∃ e : t = t', (e ▸ x : t'.den) = y := by
  unfold Ty.cast at h
  split at h
  · rename_i hb
    exact ⟨Ty.eq_of_beq hb, Option.some.inj h⟩
  · cases h

section
variable {g : Gh} {D : Nat → Bool} {w : World} {ok ok' : Nat → Prop}
theorem VR_len : ∀ {t : Ty} {x : t.den} {m : Mk} {cs : List Value}, VR g D w ok t x m cs → cs.length = t.sz
  | .slice _ _, _, .own r, _, h => by simp only [VR] at h; rw [h.1]; rfl
  | .slice _ _, _, .nil, _, h => by simp only [VR] at h; rw [h]; rfl
  | .pair a b, x, .pair m n, _, h => by
    simp only [VR] at h
    obtain ⟨c0, c1, rfl, h0, h1⟩ := h
    rw [List.length_append, VR_len h0, VR_len h1]; rfl
  | .slice e t, x, .no, cs, h => by simp only [VR] at h; rw [← kd_sz]; exact (Ty.slice e t).kd.K_len (Foot.now h)
  | .slice e t, x, .pair _ _, cs, h => by simp only [VR] at h; rw [← kd_sz]; exact (Ty.slice e t).kd.K_len (Foot.now h)
  | .pair a b, x, .no, cs, h => by simp only [VR] at h; rw [← kd_sz]; exact (Ty.pair a b).kd.K_len (Foot.now h)
  | .pair a b, x, .nil, cs, h => by simp only [VR] at h; rw [← kd_sz]; exact (Ty.pair a b).kd.K_len (Foot.now h)
  | .pair a b, x, .own _, cs, h => by simp only [VR] at h; rw [← kd_sz]; exact (Ty.pair a b).kd.K_len (Foot.now h)
  | .int k, x, _, cs, h => by simp only [VR] at h; rw [← kd_sz]; exact (Ty.int k).kd.K_len (Foot.now h)
  | .bool, x, _, cs, h => by simp only [VR] at h; rw [← kd_sz]; exact Ty.bool.kd.K_len (Foot.now h)
  | .str, x, _, cs, h => by simp only [VR] at h; rw [← kd_sz]; exact Ty.str.kd.K_len (Foot.now h)
theorem FK_pair {a b : Ty} {x : (Ty.pair a b).den} {cs : List Value} (h : Kd.FK (Ty.pair a b).kd w ok x cs) : Kd.FK a.kd w ok x.1 (cs.take a.sz) ∧ Kd.FK b.kd w ok x.2 (cs.drop a.sz) := by
  constructor
  · refine Foot.imp h (fun W' h' => ?_)
    obtain ⟨c0, c1, rfl, h0, h1⟩ := h'
    have := a.kd.K_len h0
    rw [kd_sz] at this
    rw [List.take_append_of_le_length (by omega), List.take_of_length_le (by omega)]
    exact h0
  · refine Foot.imp h (fun W' h' => ?_)
    obtain ⟨c0, c1, rfl, h0, h1⟩ := h'
    have := a.kd.K_len h0
    rw [kd_sz] at this
    rw [← this, List.drop_left]
    exact h1
theorem pair_FK {a b : Ty} {x : (Ty.pair a b).den} {c0 c1 : List Value} (h0 : Kd.FK a.kd w ok x.1 c0) (h1 : Kd.FK b.kd w ok x.2 c1) : Kd.FK (Ty.pair a b).kd w ok x (c0 ++ c1) :=
  fun W' hW => ⟨c0, c1, rfl, h0 W' hW, h1 W' hW⟩
theorem VR_no {t : Ty} {x : t.den} {cs : List Value} : VR g D w ok t x .no cs ↔ Kd.FK t.kd w ok x cs := by cases t <;> simp only [VR]
theorem VR_pair {a b : Ty} {x : (Ty.pair a b).den} {m : Mk} {cs : List Value} (h : VR g D w ok (.pair a b) x m cs) :
    VR g D w ok a x.1 m.fst (cs.take a.sz) ∧ VR g D w ok b x.2 m.snd (cs.drop a.sz) := by
  cases m with
  | pair m n =>
    simp only [VR] at h
    obtain ⟨c0, c1, rfl, h0, h1⟩ := h
    have := VR_len h0
    rw [List.take_append_of_le_length (by omega), List.take_of_length_le (by omega), ← this, List.drop_left]
    exact ⟨h0, h1⟩
  | no => simp only [VR] at h; exact ⟨VR_no.2 (FK_pair h).1, VR_no.2 (FK_pair h).2⟩
  | nil => simp only [VR] at h; exact ⟨VR_no.2 (FK_pair h).1, VR_no.2 (FK_pair h).2⟩
  | own r => simp only [VR] at h; exact ⟨VR_no.2 (FK_pair h).1, VR_no.2 (FK_pair h).2⟩
theorem pair_VR {a b : Ty} {x : a.den} {y : b.den} {m n : Mk} {c0 c1 : List Value} (h0 : VR g D w ok a x m c0) (h1 : VR g D w ok b y n c1) : VR g D w ok (.pair a b) (x, y) (.pair m n) (c0 ++ c1) := by
  simp only [VR]; exact ⟨c0, c1, rfl, h0, h1⟩

theorem getp_VR : ∀ {p : List Bool} {t : Ty} {x : t.den} {m : Mk} {t' : Ty} {y : t'.den} {m' : Mk} {cs : List Value}, getp t x m p = some ⟨t', y, m'⟩ → VR g D w ok t x m cs →
    ∃ c1 mid c2, cs = c1 ++ mid ++ c2 ∧ c1.length = offp t p ∧ VR g D w ok t' y m' mid
  | [], t, x, m, t', y, m', cs, hp, h => by
    have hp' : (⟨t, x, m⟩ : (t' : Ty) × t'.den × Mk) = ⟨t', y, m'⟩ := by cases t <;> exact Option.some.inj hp
    cases hp'
    exact ⟨[], cs, [], by simp, by cases t <;> rfl, h⟩
  | false :: p, .pair a b, x, m, t', y, m', cs, hp, h => by
    obtain ⟨c1, mid, c2, e, hl, hv⟩ := getp_VR (p := p) hp (VR_pair h).1
    refine ⟨c1, mid, c2 ++ cs.drop a.sz, ?_, hl, hv⟩
    rw [← List.append_assoc, ← e, List.take_append_drop]
  | true :: p, .pair a b, x, m, t', y, m', cs, hp, h => by
    obtain ⟨c1, mid, c2, e, hl, hv⟩ := getp_VR (p := p) hp (VR_pair h).2
    refine ⟨cs.take a.sz ++ c1, mid, c2, ?_, ?_, hv⟩
    · rw [List.append_assoc, List.append_assoc, ← List.append_assoc c1, ← e, List.take_append_drop]
    · have := VR_len h
      rw [List.length_append, hl, List.length_take, Nat.min_eq_left (by rw [this]; exact Nat.le_add_right _ _)]
      rfl
  | false :: p, .int _, x, m, t', y, m', cs, hp, h => by cases hp
  | false :: p, .bool, x, m, t', y, m', cs, hp, h => by cases hp
  | false :: p, .str, x, m, t', y, m', cs, hp, h => by cases hp
  | false :: p, .slice _ _, x, m, t', y, m', cs, hp, h => by cases hp
  | true :: p, .int _, x, m, t', y, m', cs, hp, h => by cases hp
  | true :: p, .bool, x, m, t', y, m', cs, hp, h => by cases hp
  | true :: p, .str, x, m, t', y, m', cs, hp, h => by cases hp
  | true :: p, .slice _ _, x, m, t', y, m', cs, hp, h => by cases hp

theorem setp_VR : ∀ {p : List Bool} {t : Ty} {x : t.den} {m : Mk} {t' : Ty} {x' : t'.den} {m' : Mk} {y : t.den} {n : Mk} {cs cs' : List Value}, setp t x m p t' x' m' = some (y, n) → VR g D w ok t x m cs → VR g D w ok t' x' m' cs' →
    ∃ c1 mid c2, cs = c1 ++ mid ++ c2 ∧ c1.length = offp t p ∧ mid.length = cs'.length ∧ VR g D w ok t y n (c1 ++ cs' ++ c2)
  | [], t, x, m, t', x', m', y, n, cs, cs', hp, h, h' => by
    have hp2 : ∃ z, Ty.cast t x' = some z ∧ z = y ∧ m' = n := by
      cases t <;> (simp only [setp] at hp; split at hp <;> first | (cases hp; done) | (rename_i z hz; injection hp with hp; injection hp with h1 h2; exact ⟨z, hz, h1, h2⟩))
    obtain ⟨z, hz, rfl, rfl⟩ := hp2
    obtain ⟨e, hc⟩ := cast_some hz
    subst e
    subst hc
    exact ⟨[], cs, [], by simp, by cases t' <;> rfl, by rw [VR_len h, VR_len h'], by simpa using h'⟩
  | false :: p, .pair a b, x, m, t', x', m', y, n, cs, cs', hp, h, h' => by
    simp only [setp] at hp
    split at hp
    · rename_i y0 n0 hs
      injection hp with hp; injection hp with h1 h2
      subst h1; subst h2
      obtain ⟨c1, mid, c2, e, hl, hm, hv⟩ := setp_VR (p := p) hs (VR_pair h).1 h'
      refine ⟨c1, mid, c2 ++ cs.drop a.sz, ?_, hl, hm, ?_⟩
      · rw [← List.append_assoc, ← e, List.take_append_drop]
      · rw [← List.append_assoc]
        exact pair_VR hv (VR_pair h).2
    · cases hp
  | true :: p, .pair a b, x, m, t', x', m', y, n, cs, cs', hp, h, h' => by
    simp only [setp] at hp
    split at hp
    · rename_i y0 n0 hs
      injection hp with hp; injection hp with h1 h2
      subst h1; subst h2
      obtain ⟨c1, mid, c2, e, hl, hm, hv⟩ := setp_VR (p := p) hs (VR_pair h).2 h'
      refine ⟨cs.take a.sz ++ c1, mid, c2, ?_, ?_, hm, ?_⟩
      · rw [List.append_assoc, List.append_assoc, ← List.append_assoc c1, ← e, List.take_append_drop]
      · have := VR_len h
        rw [List.length_append, hl, List.length_take, Nat.min_eq_left (by rw [this]; exact Nat.le_add_right _ _)]
        rfl
      · rw [List.append_assoc, List.append_assoc, ← List.append_assoc c1]
        exact pair_VR (VR_pair h).1 hv
    · cases hp
  | false :: p, .int _, x, m, t', _, m', y, n, cs, _, hp, h, _ => by cases hp
  | false :: p, .bool, x, m, t', _, m', y, n, cs, _, hp, h, _ => by cases hp
  | false :: p, .str, x, m, t', _, m', y, n, cs, _, hp, h, _ => by cases hp
  | false :: p, .slice _ _, x, m, t', _, m', y, n, cs, _, hp, h, _ => by cases hp
  | true :: p, .int _, x, m, t', _, m', y, n, cs, _, hp, h, _ => by cases hp
  | true :: p, .bool, x, m, t', _, m', y, n, cs, _, hp, h, _ => by cases hp
  | true :: p, .str, x, m, t', _, m', y, n, cs, _, hp, h, _ => by cases hp
  | true :: p, .slice _ _, x, m, t', _, m', y, n, cs, _, hp, h, _ => by cases hp

theorem FK_one {α : Type} {d : Kd α} {x : α} {cs : List Value} (h : Kd.FK d w ok x cs) : ∀ u ∈ cs, u.oneCell' = true := d.K_one (Foot.now h)
theorem VR_one (hρ : ∀ r, D (kR r) = true → (g.ρ r).oneCell' = true) : ∀ {t : Ty} {x : t.den} {m : Mk} {cs : List Value}, VR g D w ok t x m cs → ∀ u ∈ cs, u.oneCell' = true
  | .slice _ _, _, .own r, _, h => by
    simp only [VR] at h
    intro u hu
    rw [h.1] at hu
    rw [List.mem_singleton.1 hu]
    exact hρ r h.2
  | .slice _ _, _, .nil, _, h => by
    simp only [VR] at h
    intro u hu
    rw [h] at hu
    rw [List.mem_singleton.1 hu]
    rfl
  | .pair a b, x, .pair m n, _, h => by
    simp only [VR] at h
    obtain ⟨c0, c1, rfl, h0, h1⟩ := h
    intro u hu
    rcases List.mem_append.1 hu with hu | hu
    · exact VR_one hρ h0 u hu
    · exact VR_one hρ h1 u hu
  | .slice _ _, _, .no, _, h => by simp only [VR] at h; exact FK_one h
  | .slice _ _, _, .pair _ _, _, h => by simp only [VR] at h; exact FK_one h
  | .pair _ _, _, .no, _, h => by simp only [VR] at h; exact FK_one h
  | .pair _ _, _, .nil, _, h => by simp only [VR] at h; exact FK_one h
  | .pair _ _, _, .own _, _, h => by simp only [VR] at h; exact FK_one h
  | .int _, _, _, _, h => by simp only [VR] at h; exact FK_one h
  | .bool, _, _, _, h => by simp only [VR] at h; exact FK_one h
  | .str, _, _, _, h => by simp only [VR] at h; exact FK_one h
theorem valOf_cells {t : Ty} {cs : List Value} (hl : cs.length = t.sz) (h1 : ∀ u ∈ cs, u.oneCell' = true) : (valOf t cs).cells.toList = cs := by
  cases t with
  | pair a b => simp [valOf, Value.cells]
  | _ =>
    match cs, hl with
    | [u], _ =>
      have := h1 u (List.mem_cons_self)
      cases u <;> first | rfl | (simp [Value.oneCell'] at this)
end
end Go.Proofs.YtcmjbplnjjdcdaaGreat.Ref

namespace Go.Proofs.YtcmjbplnjjdcdaaGreat.Ref
open Go.RowKit Go.Proofs.YtcmjbplnjjdcdaaGreatW.PrintWords Go.Proofs.YtcmjbplnjjdcdaaGreatW.PrintLast

theorem run_bind {α β : Type} {p : Pg α} {q : α → Pg β} {st : St} {b : β} {L : List Nat} : (p.bind q).run st = some (b, L) → ∃ a l l', p.run st = some (a, l) ∧ (q a).run st = some (b, l') ∧ L = l ++ l' := by
  induction p generalizing L with
  | ret a => intro h; exact ⟨a, [], L, rfl, h, rfl⟩
  | fail => intro h; cases h
  | rd k f ih =>
    intro h
    simp only [Pg.bind, Pg.run] at h
    cases hg : get st k with
    | none => simp [hg] at h
    | some v =>
      simp only [hg] at h
      cases hr : ((f v).bind q).run st with
      | none => simp [hr] at h
      | some z =>
        obtain ⟨b', L'⟩ := z
        simp only [hr] at h
        injection h with h; injection h with h1 h2
        subst h1; subst h2
        obtain ⟨a, l, l', h1, h2, h3⟩ := ih v hr
        exact ⟨a, k :: l, l', by simp only [Pg.run, hg, h1], h2, by rw [h3]; rfl⟩
  | fresh k f ih =>
    intro h
    simp only [Pg.bind, Pg.run] at h
    cases hg : dom st k with
    | true => simp [hg] at h
    | false =>
      simp only [hg] at h
      cases hr : (f.bind q).run st with
      | none => simp [hr] at h
      | some z =>
        obtain ⟨b', L'⟩ := z
        simp only [hr] at h
        injection h with h; injection h with h1 h2
        subst h1; subst h2
        obtain ⟨a, l, l', h1, h2, h3⟩ := ih hr
        exact ⟨a, k :: l, l', by simp only [Pg.run, hg, h1], h2, by rw [h3]; rfl⟩
  | chk c f ih =>
    intro h
    cases c with
    | false => cases h
    | true =>
      obtain ⟨a, l, l', h1, h2, h3⟩ := ih h
      exact ⟨a, l, l', h1, h2, h3⟩
theorem run_rd {α : Type} {k : Nat} {f : Val → Pg α} {st : St} {a : α} {L : List Nat} (h : (Pg.rd k f).run st = some (a, L)) : ∃ v l, get st k = some v ∧ (f v).run st = some (a, l) ∧ L = k :: l := by
  simp only [Pg.run] at h
  cases hg : get st k with
  | none => simp [hg] at h
  | some v =>
    simp only [hg] at h
    cases hr : (f v).run st with
    | none => simp [hr] at h
    | some z =>
      obtain ⟨a', l⟩ := z
      simp only [hr] at h
      injection h with h; injection h with h1 h2
      subst h1; subst h2
      exact ⟨v, l, rfl, hr, rfl⟩
theorem run_fresh {α : Type} {k : Nat} {f : Pg α} {st : St} {a : α} {L : List Nat} (h : (Pg.fresh k f).run st = some (a, L)) : ∃ l, dom st k = false ∧ f.run st = some (a, l) ∧ L = k :: l := by
  simp only [Pg.run] at h
  cases hg : dom st k with
  | true => simp [hg] at h
  | false =>
    simp only [hg] at h
    cases hr : f.run st with
    | none => simp [hr] at h
    | some z =>
      obtain ⟨a', l⟩ := z
      simp only [hr] at h
      injection h with h; injection h with h1 h2
      subst h1; subst h2
      exact ⟨l, rfl, rfl, rfl⟩
theorem run_chk {α : Type} {c : Bool} {f : Pg α} {st : St} {a : α} {L : List Nat} (h : (Pg.chk c f).run st = some (a, L)) : c = true ∧ f.run st = some (a, L) := by
  cases c with
  | true => exact ⟨rfl, h⟩
  | false => cases h
theorem run_ret {α : Type} {b : α} {st : St} {a : α} {L : List Nat} (h : (Pg.ret b).run st = some (a, L)) : b = a := by injection h with h; injection h
theorem run_fail {α : Type} {st : St} {a : α × List Nat} (h : (Pg.fail : Pg α).run st = some a) : False := by cases h
theorem runK_all {α ρ : Type} {p : Pg α} {st : St} {K : α → List Nat → Option ρ} {r : ρ} : ∀ {L : List Nat}, p.runK st L K = some r →
    ∃ a l, p.run st = some (a, l) ∧ ∃ L', (∀ k ∈ l, k ∈ L') ∧ (∀ k ∈ L, k ∈ L') ∧ K a L' = some r := by
  induction p with
  | ret a => intro L h; exact ⟨a, [], rfl, L, (fun k hk => by cases hk), fun k hk => hk, h⟩
  | fail => intro L h; cases h
  | rd k f ih =>
    intro L h
    simp only [Pg.runK] at h
    cases hg : get st k with
    | none => simp [hg] at h
    | some v =>
      simp only [hg] at h
      obtain ⟨a, l, h1, L', h2, h3, h4⟩ := ih v h
      refine ⟨a, k :: l, by simp only [Pg.run, hg, h1], L', fun q hq => ?_, fun q hq => h3 q (List.mem_cons_of_mem _ hq), h4⟩
      rcases List.mem_cons.1 hq with rfl | hq
      · exact h3 _ List.mem_cons_self
      · exact h2 _ hq
  | fresh k f ih =>
    intro L h
    simp only [Pg.runK] at h
    cases hg : dom st k with
    | true => simp [hg] at h
    | false =>
      simp only [hg] at h
      obtain ⟨a, l, h1, L', h2, h3, h4⟩ := ih h
      refine ⟨a, k :: l, by simp only [Pg.run, hg, h1], L', fun q hq => ?_, fun q hq => h3 q (List.mem_cons_of_mem _ hq), h4⟩
      rcases List.mem_cons.1 hq with rfl | hq
      · exact h3 _ List.mem_cons_self
      · exact h2 _ hq
  | chk c f ih =>
    intro L h
    cases c with
    | false => cases h
    | true => exact ih h
theorem runK_some {α ρ : Type} {p : Pg α} {st : St} {K : α → List Nat → Option ρ} {r : ρ} {L : List Nat} (h : p.runK st L K = some r) : ∃ a l, p.run st = some (a, l) ∧ ∃ L', (∀ k ∈ l, k ∈ L') ∧ K a L' = some r := by
  obtain ⟨a, l, h1, L', h2, _, h4⟩ := runK_all h
  exact ⟨a, l, h1, L', h2, h4⟩
/-- Only the keys that were asked for count. -/
theorem run_local {α : Type} {p : Pg α} {st st' : St} {a : α} : ∀ {L : List Nat}, p.run st = some (a, L) → (∀ k ∈ L, get st' k = get st k ∧ dom st' k = dom st k) → p.run st' = some (a, L) := by
  induction p with
  | ret b => intro L h _; exact h
  | fail => intro L h; cases h
  | rd k f ih =>
    intro L h hs
    obtain ⟨v, l, h1, h2, rfl⟩ := run_rd h
    simp only [Pg.run, (hs k List.mem_cons_self).1, h1, ih v h2 (fun q hq => hs q (List.mem_cons_of_mem _ hq))]
  | fresh k f ih =>
    intro L h hs
    obtain ⟨l, h1, h2, rfl⟩ := run_fresh h
    simp only [Pg.run, (hs k List.mem_cons_self).2, h1, ih h2 (fun q hq => hs q (List.mem_cons_of_mem _ hq))]
  | chk c f ih =>
    intro L h hs
    obtain ⟨h1, h2⟩ := run_chk h
    subst h1
    exact ih h2 hs

section
variable {F : Fx} {g : Gh} {st : St} {a : Act} {w : World}
theorem Rel.rowS (h : Rel F g st a w) {r e : Nat} {t : Ty} {xs : List t.den} (hr : get st (kR r) = some (.row e t xs)) : g.σ r = t ∧ Kd.S t.kd e w 0 (g.S r) (g.ρ r) xs := by
  obtain ⟨e', t', xs', h1, h2, h3⟩ := h.rows r _ hr
  injection h1 with h1 h4 h5
  subst h1; subst h4
  cases h5
  exact ⟨h2, h3⟩
theorem Rel.row (h : Rel F g st a w) {r e : Nat} {t : Ty} {xs : List t.den} (hr : get st (kR r) = some (.row e t xs)) : g.σ r = t ∧ t.kd.R e w 0 (g.S r) (g.ρ r) xs := ⟨(h.rowS hr).1, Kd.S_R (h.rowS hr).2⟩
theorem Rel.box (h : Rel F g st a w) {b : Nat} {t : Ty} {x : t.den} {m : Mk} (hb : get st (kB b) = some (.box t x m)) : BoxR g (dom st) w (F.ok g st) b t x m := by
  obtain ⟨t', x', m', h1, h2⟩ := h.boxes b _ hb
  injection h1 with h1 h4 h5
  subst h1; subst h5
  cases h4
  exact h2
theorem Rel.tmp (h : Rel F g st a w) {i : Nat} {tv : TV} (hi : get st (kT i) = some (.tv tv)) : TVR g (dom st) w (F.ok g st) tv (a.tmps.getD i undef) := by
  obtain ⟨tv', h1, h2⟩ := h.tmps i _ hi
  injection h1 with h1
  subst h1
  exact h2

theorem FK_mk {ok : Nat → Prop} {t : Ty} {x : t.den} {cs : List Value} {ok' : Nat → Prop} (h : Kd.FK t.kd w ok x cs) (ho : ∀ k, ok k → ok' k) : Kd.FK t.kd w ok' x cs := Foot.mono h ho
theorem FK_nil (e : Nat) (t : Ty) (ok : Nat → Prop) : Kd.FK (Ty.slice e t).kd w ok ([] : List t.den) [.slice none 0 0] := fun W' _ => ⟨none, 0, rfl, Nat.le_refl _, Kd.C_nil _ _⟩
theorem FK_flat : ∀ {t : Ty} {x : t.den} {cs : List Value} {ok : Nat → Prop} {w' : World} {ok' : Nat → Prop}, t.flat = true → Kd.FK t.kd w ok x cs → Kd.FK t.kd w' ok' x cs
  | .int _, x, cs, ok, w', ok', _, h => fun _ _ => Foot.now h
  | .bool, x, cs, ok, w', ok', _, h => fun _ _ => Foot.now h
  | .str, x, cs, ok, w', ok', _, h => fun _ _ => Foot.now h
  | .pair a b, x, cs, ok, w', ok', hf, h => by
    simp only [Ty.flat, Bool.and_eq_true] at hf
    have h1 := FK_pair h
    have := pair_FK (FK_flat (w' := w') (ok' := ok') hf.1 h1.1) (FK_flat (w' := w') (ok' := ok') hf.2 h1.2)
    rwa [List.take_append_drop] at this
theorem M_flat : ∀ {t : Ty} {x : t.den} {cs : List Value} {ok : Nat → Prop} {base : Nat} {ok' : Nat → Prop}, t.flat = true → Kd.FK t.kd w ok x cs → t.kd.M w base ok' x cs
  | .int _, x, cs, ok, _, _, _, h => Foot.now h
  | .bool, x, cs, ok, _, _, _, h => Foot.now h
  | .str, x, cs, ok, _, _, _, h => Foot.now h
  | .pair a b, x, cs, ok, base, ok', hf, h => by
    simp only [Ty.flat, Bool.and_eq_true] at hf
    have h1 := FK_pair h
    exact ⟨cs.take a.sz, cs.drop a.sz, (List.take_append_drop _ _).symm, M_flat hf.1 h1.1, M_flat hf.2 h1.2⟩

theorem full_FK (h : Rel F g st a w) : ∀ {t : Ty} {x : t.den} {m : Mk} {y : t.den} {l : List Nat} {cs : List Value} {ok : Nat → Prop}, (full t x m).run st = some (y, l) → VR g (dom st) w ok t x m cs →
    Kd.FK t.kd w (fun k => ok k ∨ ∃ r ∈ idsT t m, g.S r k) y cs
  | .slice e t, x, .own r, y, l, cs, ok, hf, hv => by
    simp only [full] at hf
    obtain ⟨v, l', h1, h2, _⟩ := run_rd hf
    cases v with
    | tv _ => exact (run_fail h2).elim
    | box _ _ _ => exact (run_fail h2).elim
    | row e' t' xs =>
      simp only at h2
      cases hc : Ty.cast (.slice e t) (t := .slice e' t') xs with
      | none => rw [hc] at h2; exact (run_fail h2).elim
      | some z =>
        rw [hc] at h2
        obtain rfl := run_ret h2
        obtain ⟨e1, e2⟩ := cast_some hc
        injection e1 with e0 e1
        subst e1
        subst e0
        cases e2
        simp only [VR] at hv
        rw [hv.1]
        obtain ⟨_, hR⟩ := h.row h1
        refine Foot.mono (ok := g.S r) (fun W' hW => ?_) (fun k hk => .inr ⟨r, by simp [idsT], hk⟩)
        obtain ⟨A, c, e3, hl, hC⟩ := Kd.R_reads (Kd.R_step hR hW)
        exact ⟨A, c, by rw [e3], hl, hC⟩
  | .slice e t, x, .nil, y, l, cs, ok, hf, hv => by
    simp only [full] at hf
    obtain rfl := run_ret hf
    simp only [VR] at hv
    rw [hv]
    exact FK_nil e t _
  | .pair a b, x, .pair m n, y, l, cs, ok, hf, hv => by
    simp only [full] at hf
    obtain ⟨y1, l1, l2, h1, h2, _⟩ := run_bind hf
    obtain ⟨y2, l3, l4, h3, h4, _⟩ := run_bind h2
    obtain rfl := run_ret h4
    simp only [VR] at hv
    obtain ⟨c0, c1, rfl, hv0, hv1⟩ := hv
    refine pair_FK (FK_mk (full_FK h h1 hv0) ?_) (FK_mk (full_FK h h3 hv1) ?_)
    · rintro k (hk | ⟨r, hr, hk⟩)
      · exact .inl hk
      · exact .inr ⟨r, List.mem_append_left _ hr, hk⟩
    · rintro k (hk | ⟨r, hr, hk⟩)
      · exact .inl hk
      · exact .inr ⟨r, List.mem_append_right _ hr, hk⟩
  | .slice e t, x, .no, y, l, cs, ok, hf, hv => by simp only [full] at hf; obtain rfl := run_ret hf; simp only [VR] at hv; exact FK_mk hv (fun _ hk => .inl hk)
  | .slice e t, x, .pair _ _, y, l, cs, ok, hf, hv => by simp only [full] at hf; obtain rfl := run_ret hf; simp only [VR] at hv; exact FK_mk hv (fun _ hk => .inl hk)
  | .pair a b, x, .no, y, l, cs, ok, hf, hv => by simp only [full] at hf; obtain rfl := run_ret hf; simp only [VR] at hv; exact FK_mk hv (fun _ hk => .inl hk)
  | .pair a b, x, .nil, y, l, cs, ok, hf, hv => by simp only [full] at hf; obtain rfl := run_ret hf; simp only [VR] at hv; exact FK_mk hv (fun _ hk => .inl hk)
  | .pair a b, x, .own _, y, l, cs, ok, hf, hv => by simp only [full] at hf; obtain rfl := run_ret hf; simp only [VR] at hv; exact FK_mk hv (fun _ hk => .inl hk)
  | .int _, x, _, y, l, cs, ok, hf, hv => by simp only [full] at hf; obtain rfl := run_ret hf; simp only [VR] at hv; exact FK_mk hv (fun _ hk => .inl hk)
  | .bool, x, _, y, l, cs, ok, hf, hv => by simp only [full] at hf; obtain rfl := run_ret hf; simp only [VR] at hv; exact FK_mk hv (fun _ hk => .inl hk)
  | .str, x, _, y, l, cs, ok, hf, hv => by simp only [full] at hf; obtain rfl := run_ret hf; simp only [VR] at hv; exact FK_mk hv (fun _ hk => .inl hk)
/-- A pair's parts are full where it is. -/
theorem full_pair {a b : Ty} {x y : (Ty.pair a b).den} {m : Mk} {l : List Nat} (hf : (full (.pair a b) x m).run st = some (y, l)) : (∃ l1, (full a x.1 m.fst).run st = some (y.1, l1)) ∧ ∃ l2, (full b x.2 m.snd).run st = some (y.2, l2) := by
  have no : ∀ {t : Ty} (z : t.den), (full t z .no).run st = some (z, []) := fun {t} z => by cases t <;> rfl
  cases m with
  | pair m n =>
    simp only [full] at hf
    obtain ⟨y1, l1, l2, h1, h2, _⟩ := run_bind hf
    obtain ⟨y2, l3, l4, h3, h4, _⟩ := run_bind h2
    obtain rfl := run_ret h4
    exact ⟨⟨l1, h1⟩, ⟨l3, h3⟩⟩
  | no => simp only [full] at hf; obtain rfl := run_ret hf; exact ⟨⟨[], no _⟩, ⟨[], no _⟩⟩
  | nil => simp only [full] at hf; obtain rfl := run_ret hf; exact ⟨⟨[], no _⟩, ⟨[], no _⟩⟩
  | own r => simp only [full] at hf; obtain rfl := run_ret hf; exact ⟨⟨[], no _⟩, ⟨[], no _⟩⟩
theorem full_M (h : Rel F g st a w) : ∀ {t : Ty} {x : t.den} {m : Mk} {y : t.den} {l : List Nat} {cs : List Value} {ok : Nat → Prop}, (full t x m).run st = some (y, l) → VR g (dom st) w ok t x m cs → ownable t m = true →
    t.kd.M w 0 (fun k => ∃ r ∈ idsT t m, g.S r k) y cs
  | .slice e t, x, .own r, y, l, cs, ok, hf, hv, _ => by
    simp only [full] at hf
    obtain ⟨v, l', h1, h2, _⟩ := run_rd hf
    cases v with
    | tv _ => exact (run_fail h2).elim
    | box _ _ _ => exact (run_fail h2).elim
    | row e' t' xs =>
      simp only at h2
      cases hc : Ty.cast (.slice e t) (t := .slice e' t') xs with
      | none => rw [hc] at h2; exact (run_fail h2).elim
      | some z =>
        rw [hc] at h2
        obtain rfl := run_ret h2
        obtain ⟨e1, e2⟩ := cast_some hc
        injection e1 with e0 e1
        subst e1
        subst e0
        cases e2
        simp only [VR] at hv
        rw [hv.1]
        obtain ⟨_, hR⟩ := h.row h1
        exact ⟨_, rfl, Kd.R_mono hR (fun k hk => ⟨r, by simp [idsT], hk⟩)⟩
  | .slice e t, x, .nil, y, l, cs, ok, hf, hv, _ => by
    simp only [full] at hf
    obtain rfl := run_ret hf
    simp only [VR] at hv
    rw [hv]
    exact ⟨_, rfl, Kd.R_nil _ _ _ _ _⟩
  | .slice e t, x, .no, y, l, cs, ok, hf, hv, ho => by cases ho
  | .slice e t, x, .pair _ _, y, l, cs, ok, hf, hv, ho => by cases ho
  | .pair a b, x, m, y, l, cs, ok, hf, hv, ho => by
    simp only [ownable, Bool.and_eq_true] at ho
    obtain ⟨⟨l1, h1⟩, ⟨l2, h2⟩⟩ := full_pair hf
    have hv' := VR_pair hv
    refine ⟨cs.take a.sz, cs.drop a.sz, (List.take_append_drop _ _).symm, a.kd.M_mono ?_ (full_M h h1 hv'.1 ho.1), b.kd.M_mono ?_ (full_M h h2 hv'.2 ho.2)⟩
    · rintro k ⟨r, hr, hk⟩
      exact ⟨r, List.mem_append_left _ hr, hk⟩
    · rintro k ⟨r, hr, hk⟩
      exact ⟨r, List.mem_append_right _ hr, hk⟩
  | .int _, x, _, y, l, cs, ok, hf, hv, _ => by simp only [full] at hf; obtain rfl := run_ret hf; simp only [VR] at hv; exact M_flat rfl hv
  | .bool, x, _, y, l, cs, ok, hf, hv, _ => by simp only [full] at hf; obtain rfl := run_ret hf; simp only [VR] at hv; exact M_flat rfl hv
  | .str, x, _, y, l, cs, ok, hf, hv, _ => by simp only [full] at hf; obtain rfl := run_ret hf; simp only [VR] at hv; exact M_flat rfl hv
end

def zc : Ty → List Value
  | .int k => [.int k 0]
  | .bool => [.bool false]
  | .str => [.string ByteArray.empty]
  | .slice _ _ => [.slice none 0 0]
  | .pair a b => zc a ++ zc b
theorem zc_VR {g : Gh} {D : Nat → Bool} {w : World} {ok : Nat → Prop} : ∀ t : Ty, VR g D w ok t t.zero t.zmk (zc t)
  | .int k => by simp only [VR]; exact fun _ _ => rfl
  | .bool => by simp only [VR]; exact fun _ _ => rfl
  | .str => by simp only [VR]; exact fun _ _ => rfl
  | .slice _ _ => by simp only [Ty.zmk, VR]; rfl
  | .pair a b => by simp only [Ty.zmk, VR]; exact ⟨zc a, zc b, rfl, zc_VR a, zc_VR b⟩
theorem zc_M {w : World} {base : Nat} {ok : Nat → Prop} : ∀ t : Ty, t.kd.M w base ok t.zero (zc t)
  | .int k => rfl
  | .bool => rfl
  | .str => rfl
  | .slice _ _ => ⟨_, rfl, Kd.R_nil _ _ _ _ _⟩
  | .pair a b => ⟨zc a, zc b, rfl, zc_M a, zc_M b⟩
theorem zc_len : ∀ t : Ty, (zc t).length = t.sz
  | .int k => rfl
  | .bool => rfl
  | .str => rfl
  | .slice _ _ => rfl
  | .pair a b => by
    show (zc a ++ zc b).length = a.sz + b.sz
    rw [List.length_append, zc_len a, zc_len b]

def UndF (P : Program) (n : Nat) : Ty → Prop
  | .int k => P.underlying n = some (.int k)
  | .bool => P.underlying n = some .bool
  | .str => P.underlying n = some .string
  | .slice e t => P.underlying n = some (.slice e) ∧ ∃ bytes, (P.info? e).map (fun i => (i.zero, i.size, i.bytes)) = some (some (valOf t (zc t)), t.sz, bytes) ∧ 0 < bytes ∧ bytes ≤ 256 ∧ ∀ k, t = .int k → P.underlying e = some (.int k)
  | .pair _ _ => ∃ fs, P.underlying n = some (.struct fs)
structure TyF (P : Program) (n : Nat) (t : Ty) : Prop where
  size : (P.info? n).map (·.size) = some t.sz
  zero : (P.info? n).map (·.zero) = some (some (valOf t (zc t)))
  und : UndF P n t
/-- Where a field lies. -/
def subT : Ty → List Bool → Option Ty
  | t, [] => some t
  | .pair a _, false :: p => subT a p
  | .pair _ b, true :: p => subT b p
  | _, _ :: _ => none
def aggU : TypeDesc → Bool
  | .struct _ => true
  | .array _ _ => true
  | _ => false
def FpF (P : Program) (S f : Nat) (t : Ty) (p : List Bool) : Prop :=
  ∃ fs fd t', P.underlying S = some (.struct fs) ∧ fs[f]? = some fd ∧ fd.offset = offp t p ∧ subT t p = some t' ∧ (P.info? fd.type).map (·.size) = some t'.sz ∧ (P.underlying fd.type).map aggU = some t'.isPair
/-- The fields of a struct type have types of the program. -/
def PlF (P : Program) (S : Nat) : Prop := ∀ fs, P.underlying S = some (.struct fs) → ∀ fd ∈ fs.toList, ∃ n, (P.info? fd.type).map (·.size) = some n
structure TabOk (P : Program) (T : Tab) : Prop where
  ty : ∀ n t, T.ty n = some t → TyF P n t
  fp : ∀ S f p t, T.fp S f = some p → T.ty S = some t → FpF P S f t p
  follows : P.follows .mixedOrders = true
  pl : ∀ n a b, T.ty n = some (.pair a b) → PlF P n
  eq2 : ∀ n, T.ty n = some (.pair (.int .i64) (.int .i64)) → ∀ (x y x' y' : Int) (X Y : Operand) (w : World),
    (do eqGuard .eql n X Y (.agg #[.int .i64 x, .int .i64 y]) (.agg #[.int .i64 x', .int .i64 y']); binOp .eql n (.agg #[.int .i64 x, .int .i64 y]) (.agg #[.int .i64 x', .int .i64 y']) : Sem Value).run P w = .ok (.bool (x == x' && y == y')) w ∧
    (do eqGuard .neq n X Y (.agg #[.int .i64 x, .int .i64 y]) (.agg #[.int .i64 x', .int .i64 y']); binOp .neq n (.agg #[.int .i64 x, .int .i64 y]) (.agg #[.int .i64 x', .int .i64 y']) : Sem Value).run P w = .ok (.bool (!(x == x' && y == y'))) w

end Go.Proofs.YtcmjbplnjjdcdaaGreat.Ref

namespace Go.Proofs.YtcmjbplnjjdcdaaGreat.Ref
open Go.RowKit Go.Proofs.YtcmjbplnjjdcdaaGreatW.PrintWords Go.Proofs.YtcmjbplnjjdcdaaGreatW.PrintLast

def updF {α : Type} (f : Nat → α) (i : Nat) (v : α) : Nat → α := fun j => if j = i then v else f j
theorem updF_same {α : Type} (f : Nat → α) (i : Nat) (v : α) : updF f i v i = v := by simp [updF]
theorem updF_ne {α : Type} {f : Nat → α} {i j : Nat} {v : α} (h : j ≠ i) : updF f i v j = f j := by simp [updF, h]

theorem get_one_same (k : Nat) (v : Option Val) : get [(k, v)] k = v := get_cons_same _ _ _
theorem get_one_ne {k k' : Nat} (v : Option Val) (h : k' ≠ k) : get [(k', v)] k = none := by rw [get_cons_ne _ _ h]; rfl

section
variable {F : Fx} {g : Gh} {st : St} {a : Act} {w : World}

/-- A new variable of the frame. -/
theorem Rel.newBox (h : Rel F g st a w) {d : Nat} (hd : F.slot d) {t : Ty} {x : t.den} {m : Mk} {cs : List Value} (E : Nat) (hf : dom st (kB d) = false) (hv_ : VR g (dom st) w (F.ok g st) t x m cs) :
    ∃ g', Rel F g' ((kB d, some (.box t x m)) :: (kT d, some (.tv (.box d []))) :: st) (a.put (some d) (.pointer (some ⟨w.heap.size, 0, none⟩))) (w.alloc (.cells cs.toArray E)) := by
  let g' : Gh := { g with β := updF g.β d w.heap.size, τ := updF g.τ d t }
  let wr : Wr := [(kB d, some (.box t x m)), (kT d, some (.tv (.box d [])))]
  have hne : ∀ b, dom st (kB b) = true → b ≠ d := fun b hb e => by subst e; rw [hf] at hb; cases hb
  have dB : ∀ b, b ≠ d → dom wr (kB b) = false := fun b hb => by
    show dom [(kB d, some (Val.box t x m)), (kT d, some (.tv (.box d [])))] (kB b) = false
    rw [dom_cons_ne _ _ (fun e => hb (kB_inj e).symm), dom_one_ne _ (kT_kB d b)]
  have dR : ∀ r, dom wr (kR r) = false := fun r => by
    show dom [(kB d, some (Val.box t x m)), (kT d, some (.tv (.box d [])))] (kR r) = false
    rw [dom_cons_ne _ _ (kB_kR d r), dom_one_ne _ (kT_kR d r)]
  have gB : ∀ b v, get wr (kB b) = some v → b = d ∧ v = .box t x m := fun b v hv => by
    by_cases e : b = d
    · subst e
      have : get wr (kB b) = some (Val.box t x m) := get_cons_same _ _ _
      rw [this] at hv
      exact ⟨rfl, (Option.some.inj hv).symm⟩
    · have h0 := dB b e
      have : dom wr (kB b) = true := dom_of_get hv
      rw [h0] at this; cases this
  have hpush : ∀ k, k < w.heap.size → (w.alloc (.cells cs.toArray E)).heap[k]? = w.heap[k]? := fun k hk => Below.heap_alloc w _ k hk
  have hnew : (w.alloc (.cells cs.toArray E)).heap[w.heap.size]? = some (.cells cs.toArray E (0, 0)) := heap_alloc_new w _
  have hgr : w.heap.size < (w.alloc (.cells cs.toArray E)).heap.size := heap_some_lt hnew
  have aB : ∀ b, Alive (wr ++ st) (kB b) → b = d ∨ (b ≠ d ∧ Alive st (kB b)) := fun b hb => by
    by_cases e : b = d
    · exact .inl e
    · exact .inr ⟨e, (alive_app_out (dB b e)).1 hb⟩
  have aR : ∀ r, Alive (wr ++ st) (kR r) → Alive st (kR r) := fun r hr => (alive_app_out (dR r)).1 hr
  have βd : g'.β d = w.heap.size := updF_same _ _ _
  have βo : ∀ b, b ≠ d → g'.β b = g.β b := fun b hb => updF_ne hb
  have hmut : ∀ k, Mut g' (wr ++ st) k → k = w.heap.size ∨ Mut g st k := by
    rintro k (⟨b, hb, rfl⟩ | ⟨r, hr, hk⟩)
    · rcases aB b hb with rfl | ⟨e, hb⟩
      · exact .inl βd
      · exact .inr (.inl ⟨b, hb, (βo b e).symm⟩)
    · exact .inr (.inr ⟨r, aR r hr, hk⟩)
  refine ⟨g', h.upd g' wr _ _ (fun _ => False) (by rw [put_size, h.size]) (fun i hi => by
      show dom [(kB d, some (Val.box t x m)), (kT d, some (.tv (.box d [])))] (kT i) = false
      rw [dom_cons_ne _ _ (kT_kB i d).symm]
      exact dom_one_ne _ (fun e => by have h1 := kT_inj e; have h2 := hd.1; omega)) (by rw [put_defers, h.defers]) rfl rfl rfl (Nat.le_of_lt hgr) (fun k hk _ => hpush k hk) (fun _ hk => hk.elim)
    (fun b hb => βo b (hne b hb)) (fun b hb => updF_ne (hne b hb)) (fun _ _ => rfl) (fun _ _ => rfl) (fun _ _ _ => rfl)
    (fun k hk hm => (hmut k hm).resolve_left (by omega)) (fun _ _ _ hk => hk) (fun _ _ _ _ _ hk => hk) ?_ ?_ ?_ (fun r v hv => ?_) (fun r hr => by rw [dR r] at hr; cases hr) ?_ ?_ ?_⟩
  · intro i hi
    refine put_ne (fun e => ?_)
    subst e
    have : dom wr (kT i) = true := by
      show dom [(kB i, some (Val.box t x m)), (kT i, some (.tv (.box i [])))] (kT i) = true
      rw [dom_cons_ne _ _ (kT_kB i i).symm, dom_cons_same]
    rw [this] at hi; cases hi
  · intro hmv i v hv
    have hv2 : get [(kB d, some (Val.box t x m)), (kT d, some (.tv (.box d [])))] (kT i) = some v := hv
    rw [get_cons_ne _ _ (kT_kB i d).symm] at hv2
    by_cases e : i = d
    · subst e
      rw [get_one_same] at hv2
      injection hv2 with hv2
      subst hv2
      refine ⟨_, rfl, ?_⟩
      rw [put_same (by rw [h.size]; exact hd.2)]
      simp only [TVR]
      refine ⟨?_, ?_⟩
      · rw [βd]
        have : offp (g'.τ i) [] = 0 := by cases g'.τ i <;> rfl
        rw [this]
      · show dom ((kB i, _) :: _) (kB i) = true
        exact dom_cons_same _ _ _
    · rw [get_one_ne _ (fun e' => e (kT_inj e').symm)] at hv2
      cases hv2
  · intro hmv b v hv
    obtain ⟨rfl, rfl⟩ := gB b v hv
    refine ⟨t, x, m, rfl, ⟨updF_same _ _ _, cs, E, ?_, VR.mv hmv hv_⟩, .inl ?_⟩
    · rw [βd]; exact hnew
    · rw [βd]; exact h.grow
  · have := dR r
    rw [dom_of_get hv] at this
    cases this
  · intro b b' hb hb' e
    rcases aB b hb with e1 | ⟨e1, hb1⟩ <;> rcases aB b' hb' with e2 | ⟨e2, hb2⟩
    · rw [e1, e2]
    · rw [e1, βd, βo b' e2] at e
      have := h.boxLt hb2
      omega
    · rw [e2, βd, βo b e1] at e
      have := h.boxLt hb1
      omega
    · rw [βo b e1, βo b' e2] at e
      exact h.dBB b b' hb1 hb2 e
  · intro b r hb hr hk
    rcases aB b hb with e1 | ⟨e1, hb1⟩
    · rw [e1, βd] at hk
      have := (h.newR r (aR r hr) _ hk).2
      omega
    · rw [βo b e1] at hk
      exact h.dBR b r hb1 (aR r hr) hk
  · intro r r' hr hr' hne k hk
    exact h.dRR r r' (aR r hr) (aR r' hr') hne k hk

/-- A variable of the frame is written: its block has new cells, nothing else turns. -/
theorem Rel.setBox (h : Rel F g st a w) {b : Nat} {t : Ty} {x y : t.den} {m n : Mk} {cs : List Value} {ty : TypeId} {w' : World} (hb : get st (kB b) = some (.box t x m))
    (hos : w'.os = w.os) (htp : w'.tape = w.tape) (hout : w'.output = w.output) (hsz : w'.heap.size = w.heap.size) (hX : ∀ k, k ≠ g.β b → w'.heap[k]? = w.heap[k]?)
    (hw : w'.heap[g.β b]? = some (.cells cs.toArray ty (0, 0))) (hv : VR g (dom st) w (F.ok g st) t y n cs) : Rel F g ((kB b, some (.box t y n)) :: st) a w' := by
  let wr : Wr := [(kB b, some (.box t y n))]
  have hal : Alive st (kB b) := ⟨_, hb⟩
  have dT : ∀ i, dom wr (kT i) = false := fun i => dom_one_ne _ (kT_kB i b).symm
  have dR : ∀ r, dom wr (kR r) = false := fun r => dom_one_ne _ (kB_kR b r)
  have aB : ∀ b', Alive (wr ++ st) (kB b') → Alive st (kB b') := fun b' hb' => by
    by_cases e : b' = b
    · subst e; exact hal
    · exact (alive_app_out (dom_one_ne _ (fun e' => e (kB_inj e').symm))).1 hb'
  have aR : ∀ r, Alive (wr ++ st) (kR r) → Alive st (kR r) := fun r hr => (alive_app_out (dR r)).1 hr
  refine h.upd g wr a w' (fun k => k = g.β b) h.size (fun i _ => dT i) h.defers hos htp hout (by rw [hsz]; exact Nat.le_refl _) (fun k _ hk => hX k hk) (fun k hk => .inl ⟨b, hal, hk.symm⟩)
    (fun _ _ => rfl) (fun _ _ => rfl) (fun _ _ => rfl) (fun _ _ => rfl) (fun _ _ _ => rfl) ?_ ?_ ?_ (fun _ _ => rfl) ?_ ?_ (fun r v hv => ?_) (fun r hr => by rw [dR r] at hr; cases hr)
    (fun b1 b2 h1 h2 e => h.dBB b1 b2 (aB b1 h1) (aB b2 h2) e) (fun b1 r h1 h2 => h.dBR b1 r (aB b1 h1) (aR r h2)) (fun r r' h1 h2 => h.dRR r r' (aR r h1) (aR r' h2))
  · rintro k _ (⟨b', hb', e⟩ | ⟨r, hr, hk⟩)
    · exact .inl ⟨b', aB b' hb', e⟩
    · exact .inr ⟨r, aR r hr, hk⟩
  · intro b' hb' hd e
    have := h.dBB b' b hb' hal e
    subst this
    have h2 : dom wr (kB b') = true := dom_cons_same _ _ _
    rw [h2] at hd; cases hd
  · intro r hr _ k hk e
    subst e
    exact h.dBR b r hal hr hk
  · intro _ i v hv
    have := dT i
    rw [dom_of_get hv] at this
    cases this
  · intro hmv b' v hv'
    by_cases e : b' = b
    · subst e
      have h2 : get wr (kB b') = some (.box t y n) := get_cons_same _ _ _
      rw [h2] at hv'
      injection hv' with hv'
      subst hv'
      refine ⟨t, y, n, rfl, ⟨?_, cs, ty, hw, VR.mv hmv hv⟩, h.newB b' hal⟩
      exact (h.box hb).1
    · have : dom wr (kB b') = false := dom_one_ne _ (fun e' => e (kB_inj e').symm)
      rw [dom_of_get hv'] at this
      cases this
  · have := dR r
    rw [dom_of_get hv] at this
    cases this

theorem dom_drops : ∀ {ids : List Nat} {k : Nat}, dom (drops ids) k = true → ∃ r ∈ ids, k = kR r
  | [], k, h => by cases h
  | r :: l, k, h => by
    by_cases e : kR r = k
    · exact ⟨r, List.mem_cons_self, e.symm⟩
    · have h' : dom ((kR r, none) :: drops l) k = true := h
      rw [dom_cons_ne _ _ e] at h'
      obtain ⟨q, hq, e'⟩ := dom_drops h'
      exact ⟨q, List.mem_cons_of_mem _ hq, e'⟩
theorem drops_dom : ∀ {ids : List Nat} {r : Nat}, r ∈ ids → dom (drops ids) (kR r) = true
  | q :: l, r, h => by
    by_cases e : q = r
    · subst e; exact dom_cons_same _ _ _
    · have : dom (drops (q :: l)) (kR r) = dom (drops l) (kR r) := dom_cons_ne _ _ (fun e' => e (kR_inj e'))
      rw [this]
      exact drops_dom ((List.mem_cons.1 h).resolve_left (fun e' => e e'.symm))
theorem get_drops : ∀ {ids : List Nat} {k : Nat}, get (drops ids) k = none
  | [], _ => rfl
  | r :: l, k => by
    by_cases e : kR r = k
    · have : get (drops (r :: l)) k = get ((kR r, none) :: drops l) k := rfl
      rw [this, e, get_cons_same]
    · have : get (drops (r :: l)) k = get ((kR r, none) :: drops l) k := rfl
      rw [this, get_cons_ne _ _ e, get_drops]
theorem dom_drops_T (ids : List Nat) (i : Nat) : dom (drops ids) (kT i) = false := by
  cases hd : dom (drops ids) (kT i) with
  | false => rfl
  | true => obtain ⟨r, _, e⟩ := dom_drops hd; exact absurd e (kT_kR i r)
theorem dom_drops_B (ids : List Nat) (i : Nat) : dom (drops ids) (kB i) = false := by
  cases hd : dom (drops ids) (kB i) with
  | false => rfl
  | true => obtain ⟨r, _, e⟩ := dom_drops hd; exact absurd e (kB_kR i r)
/-- A new row of the frame's own; it may have taken up other rows. -/
theorem Rel.newRow (h : Rel F g st a w) {d r' e : Nat} (hd : F.slot d) {t : Ty} {xs : List t.den} {ids : List Nat} {v1 : Value} {w' : World} (hal : ∀ r ∈ ids, Alive st (kR r)) (hf : dom st (kR r') = false)
    (hos : w'.os = w.os) (htp : w'.tape = w.tape) (hout : w'.output = w.output) (hsz : w.heap.size ≤ w'.heap.size)
    (hX : ∀ k, k < w.heap.size → ¬ (∃ r ∈ ids, g.S r k) → w'.heap[k]? = w.heap[k]?)
    (hR : Kd.S t.kd e w' 0 (fun k => (∃ r ∈ ids, g.S r k) ∨ w.heap.size ≤ k) v1 xs) :
    ∃ g', Rel F g' ((drops ids ++ [(kR r', some (.row e t xs)), (kT d, some (.tv (.v (.slice e t) [] (.own r'))))]) ++ st) (a.put (some d) v1) w' := by
  let S' : Nat → Prop := fun k => ((∃ r ∈ ids, g.S r k) ∨ w.heap.size ≤ k) ∧ k < w'.heap.size
  let g' : Gh := { g with ρ := updF g.ρ r' v1, σ := updF g.σ r' t, S := updF g.S r' S' }
  let wr : Wr := drops ids ++ [(kR r', some (.row e t xs)), (kT d, some (.tv (.v (.slice e t) [] (.own r'))))]
  have hR' : Kd.S t.kd e w' 0 S' v1 xs := Kd.S_mono (Kd.S_bound hR) (fun k hk => ⟨hk.1, hk.2.2.1⟩)
  have hne : ∀ r, dom st (kR r) = true → r ≠ r' := fun r hr e => by subst e; rw [hf] at hr; cases hr
  have hni : r' ∉ ids := fun hi => hne r' (dom_of_alive (hal r' hi)) rfl
  have gwr : ∀ k, get wr k = get [(kR r', some (Val.row e t xs)), (kT d, some (.tv (.v (.slice e t) [] (.own r'))))] k ∨ get wr k = none := fun k => by
    cases hk : dom (drops ids) k with
    | true => exact .inr ((get_app_in hk).trans get_drops)
    | false => exact .inl (get_app_out hk)
  have dB : ∀ b, dom wr (kB b) = false := fun b => by
    show dom (drops ids ++ _) (kB b) = false
    rw [dom_app, dom_drops_B, dom_cons_ne _ _ (kB_kR b r').symm, dom_one_ne _ (kT_kB d b)]; rfl
  have dT : ∀ i, dom wr (kT i) = true → i = d := fun i hi => by
    have hi2 : dom (drops ids ++ [(kR r', some (Val.row e t xs)), (kT d, some (.tv (.v (.slice e t) [] (.own r'))))]) (kT i) = true := hi
    rw [dom_app, dom_drops_T, Bool.false_or, dom_cons_ne _ _ (kT_kR i r').symm] at hi2
    by_cases e : i = d
    · exact e
    · rw [dom_one_ne _ (fun e' => e (kT_inj e').symm)] at hi2; cases hi2
  have dR : ∀ r, dom wr (kR r) = true → r ∈ ids ∨ r = r' := fun r hr => by
    have hr2 : dom (drops ids ++ [(kR r', some (Val.row e t xs)), (kT d, some (.tv (.v (.slice e t) [] (.own r'))))]) (kR r) = true := hr
    rw [dom_app, Bool.or_eq_true] at hr2
    rcases hr2 with hr2 | hr2
    · obtain ⟨q, hq, e⟩ := dom_drops hr2
      exact .inl (kR_inj e ▸ hq)
    · by_cases e : r = r'
      · exact .inr e
      · rw [dom_cons_ne _ _ (fun e' => e (kR_inj e').symm), dom_one_ne _ (kT_kR d r)] at hr2; cases hr2
  have dRi : ∀ r ∈ ids, dom wr (kR r) = true := fun r hr => by
    show dom (drops ids ++ _) (kR r) = true
    rw [dom_app, drops_dom hr, Bool.true_or]
  have gR : ∀ r v, get wr (kR r) = some v → r = r' ∧ v = .row e t xs := fun r v hv => by
    rcases gwr (kR r) with h1 | h1
    · rw [h1] at hv
      by_cases e : r = r'
      · subst e
        rw [get_cons_same] at hv
        exact ⟨rfl, (Option.some.inj hv).symm⟩
      · rw [get_cons_ne _ _ (fun e' => e (kR_inj e').symm), get_one_ne _ (kT_kR d r)] at hv; cases hv
    · rw [h1] at hv; cases hv
  have aB : ∀ b, Alive (wr ++ st) (kB b) → Alive st (kB b) := fun b hb => (alive_app_out (dB b)).1 hb
  have aR : ∀ r, Alive (wr ++ st) (kR r) → r = r' ∨ (r ≠ r' ∧ r ∉ ids ∧ Alive st (kR r)) := fun r hr => by
    by_cases e : r = r'
    · exact .inl e
    · cases hdr : dom wr (kR r) with
      | true =>
        rw [alive_app_in hdr] at hr
        obtain ⟨v, hv⟩ := hr
        exact absurd (gR r v hv).1 e
      | false =>
        refine .inr ⟨e, fun hi => ?_, (alive_app_out hdr).1 hr⟩
        rw [dRi r hi] at hdr; cases hdr
  have Sn : g'.S r' = S' := updF_same _ _ _
  have So : ∀ r, r ≠ r' → g'.S r = g.S r := fun r hr => updF_ne hr
  have hv1 : v1.oneCell' = true := by
    obtain ⟨A, c, e1⟩ := Kd.S_slice hR
    rw [e1]; rfl
  refine ⟨g', h.upd g' wr _ w' (fun k => ∃ r ∈ ids, g.S r k) (by rw [put_size, h.size]) (fun i hi => by cases e : dom wr (kT i) with | false => rfl | true => have h1 := dT i e; have h2 := hd.1; omega) (by rw [put_defers, h.defers]) hos htp hout hsz hX (fun k hk => by obtain ⟨r, hr, hk⟩ := hk; exact .inr ⟨r, hal r hr, hk⟩)
    (fun _ _ => rfl) (fun _ _ => rfl) (fun r hr => updF_ne (hne r hr)) (fun r hr => updF_ne (hne r hr)) (fun r hr _ => So r (hne r (dom_of_alive hr))) ?_ ?_ ?_ ?_ ?_ (fun hmv b v hv => by have := dB b; rw [dom_of_get hv] at this; cases this) ?_ ?_ ?_ ?_ ?_⟩
  · rintro k hk (⟨b, hb, e⟩ | ⟨r, hr, hs⟩)
    · exact .inl ⟨b, aB b hb, e⟩
    · rcases aR r hr with rfl | ⟨e1, _, hr1⟩
      · rw [Sn] at hs
        rcases hs.1 with ⟨q, hq, hs⟩ | hs
        · exact .inr ⟨q, hal q hq, hs⟩
        · omega
      · rw [So r e1] at hs
        exact .inr ⟨r, hr1, hs⟩
  · rintro b hb _ ⟨r, hr, hs⟩
    exact h.dBR b r hb (hal r hr) hs
  · rintro r hr hdr k hs ⟨q, hq, hs'⟩
    refine h.dRR r q hr (hal q hq) (fun e => ?_) k hs hs'
    subst e
    rw [dRi r hq] at hdr; cases hdr
  · intro i hi
    refine put_ne (fun e => ?_)
    subst e
    have : dom wr (kT i) = true := by
      show dom (drops ids ++ _) (kT i) = true
      rw [dom_app, dom_cons_ne _ _ (kT_kR i r').symm, dom_cons_same, Bool.or_true]
    rw [this] at hi; cases hi
  · intro hmv i v hv
    have ei := dT i (dom_of_get hv)
    subst ei
    rcases gwr (kT i) with h1 | h1
    · rw [h1, get_cons_ne _ _ (kT_kR i r').symm, get_one_same] at hv
      injection hv with hv
      subst hv
      refine ⟨_, rfl, ?_⟩
      rw [put_same (by rw [h.size]; exact hd.2)]
      simp only [TVR]
      refine ⟨[v1], rfl, ?_⟩
      simp only [VR]
      refine ⟨by show [v1] = [updF g.ρ r' v1 r']; rw [updF_same], ?_⟩
      show dom (wr ++ st) (kR r') = true
      rw [dom_app]
      have : dom wr (kR r') = true := by
        show dom (drops ids ++ _) (kR r') = true
        rw [dom_app, dom_cons_same, Bool.or_true]
      rw [this]; rfl
    · rw [h1] at hv; cases hv
  · intro r v hv
    obtain ⟨rfl, rfl⟩ := gR r v hv
    refine ⟨e, t, xs, rfl, ⟨updF_same _ _ _, ?_⟩, ?_⟩
    · rw [Sn]
      show Kd.S t.kd e w' 0 S' (updF g.ρ r v1 r) xs
      rw [updF_same]
      exact hR'
    · intro k hk
      rw [Sn] at hk
      refine ⟨?_, hk.2⟩
      rcases hk.1 with ⟨q, hq, hs⟩ | hs
      · exact (h.newR q (hal q hq) k hs).1
      · exact .inl (Nat.le_trans h.grow hs)
  · intro r hr
    rcases dR r hr with hi | e
    · have hr1 := dom_of_alive (hal r hi)
      show (updF g.ρ r' v1 r).oneCell' = true
      rw [updF_ne (hne r hr1)]
      exact h.isl r hr1
    · show (updF g.ρ r' v1 r).oneCell' = true
      rw [e, updF_same]
      exact hv1
  · exact fun b b' hb hb' e => h.dBB b b' (aB b hb) (aB b' hb') e
  · intro b r hb hr hs
    rcases aR r hr with rfl | ⟨e1, _, hr1⟩
    · rw [Sn] at hs
      rcases hs.1 with ⟨q, hq, hs⟩ | hs
      · exact h.dBR b q (aB b hb) (hal q hq) hs
      · have := h.boxLt (aB b hb)
        have : w.heap.size ≤ g.β b := hs
        omega
    · rw [So r e1] at hs
      exact h.dBR b r (aB b hb) hr1 hs
  · intro r q hr hq hrq k hk hk'
    rcases aR r hr with e1 | ⟨e1, hi1, hr1⟩ <;> rcases aR q hq with e2 | ⟨e2, hi2, hq1⟩
    · exact hrq (e1.trans e2.symm)
    · rw [e1, Sn] at hk
      rw [So q e2] at hk'
      rcases hk.1 with ⟨z, hz, hs⟩ | hs
      · exact h.dRR z q (hal z hz) hq1 (fun e => hi2 (e ▸ hz)) k hs hk'
      · have := (h.newR q hq1 k hk').2
        omega
    · rw [e2, Sn] at hk'
      rw [So r e1] at hk
      rcases hk'.1 with ⟨z, hz, hs⟩ | hs
      · exact h.dRR z r (hal z hz) hr1 (fun e => hi1 (e ▸ hz)) k hs hk
      · have := (h.newR r hr1 k hk).2
        omega
    · rw [So r e1] at hk
      rw [So q e2] at hk'
      exact h.dRR r q hr1 hq1 hrq k hk hk'

/-- An element of an own row is written; what is laid in may bring rows of its own. -/
theorem Rel.setRow (h : Rel F g st a w) {r e : Nat} {t : Ty} {xs ys : List t.den} {ids : List Nat} {w' : World} (hal : ∀ q ∈ ids, Alive st (kR q)) (hr : get st (kR r) = some (.row e t xs)) (hni : r ∉ ids)
    (hos : w'.os = w.os) (htp : w'.tape = w.tape) (hout : w'.output = w.output) (hsz : w'.heap.size = w.heap.size)
    (hX : ∀ k, ¬ g.S r k → w'.heap[k]? = w.heap[k]?)
    (hR : Kd.S t.kd e w' 0 (fun k => g.S r k ∨ ∃ q ∈ ids, g.S q k) (g.ρ r) ys) :
    ∃ g', Rel F g' ((drops ids ++ [(kR r, some (.row e t ys))]) ++ st) a w' := by
  let S' : Nat → Prop := fun k => g.S r k ∨ ∃ q ∈ ids, g.S q k
  let g' : Gh := { g with S := updF g.S r S' }
  let wr : Wr := drops ids ++ [(kR r, some (.row e t ys))]
  have har : Alive st (kR r) := ⟨_, hr⟩
  have gwr : ∀ k, get wr k = get [(kR r, some (Val.row e t ys))] k ∨ get wr k = none := fun k => by
    cases hk : dom (drops ids) k with
    | true => exact .inr ((get_app_in hk).trans get_drops)
    | false => exact .inl (get_app_out hk)
  have dB : ∀ b, dom wr (kB b) = false := fun b => by
    show dom (drops ids ++ _) (kB b) = false
    rw [dom_app, dom_drops_B, dom_one_ne _ (kB_kR b r).symm]; rfl
  have dT : ∀ i, dom wr (kT i) = false := fun i => by
    show dom (drops ids ++ _) (kT i) = false
    rw [dom_app, dom_drops_T, dom_one_ne _ (kT_kR i r).symm]; rfl
  have dRi : ∀ q ∈ ids, dom wr (kR q) = true := fun q hq => by
    show dom (drops ids ++ _) (kR q) = true
    rw [dom_app, drops_dom hq, Bool.true_or]
  have dRr : dom wr (kR r) = true := by
    show dom (drops ids ++ _) (kR r) = true
    rw [dom_app, dom_cons_same, Bool.or_true]
  have dR : ∀ q, dom wr (kR q) = true → q ∈ ids ∨ q = r := fun q hq => by
    have hq2 : dom (drops ids ++ [(kR r, some (Val.row e t ys))]) (kR q) = true := hq
    rw [dom_app, Bool.or_eq_true] at hq2
    rcases hq2 with hq2 | hq2
    · obtain ⟨z, hz, e⟩ := dom_drops hq2
      exact .inl (kR_inj e ▸ hz)
    · by_cases e : q = r
      · exact .inr e
      · rw [dom_one_ne _ (fun e' => e (kR_inj e').symm)] at hq2; cases hq2
  have gR : ∀ q v, get wr (kR q) = some v → q = r ∧ v = .row e t ys := fun q v hv => by
    rcases gwr (kR q) with h1 | h1
    · rw [h1] at hv
      by_cases e : q = r
      · subst e
        rw [get_cons_same] at hv
        exact ⟨rfl, (Option.some.inj hv).symm⟩
      · rw [get_one_ne _ (fun e' => e (kR_inj e').symm)] at hv; cases hv
    · rw [h1] at hv; cases hv
  have aB : ∀ b, Alive (wr ++ st) (kB b) → Alive st (kB b) := fun b hb => (alive_app_out (dB b)).1 hb
  have aR : ∀ q, Alive (wr ++ st) (kR q) → q = r ∨ (q ≠ r ∧ q ∉ ids ∧ Alive st (kR q)) := fun q hq => by
    by_cases e : q = r
    · exact .inl e
    · cases hdr : dom wr (kR q) with
      | true =>
        rw [alive_app_in hdr] at hq
        obtain ⟨v, hv⟩ := hq
        exact absurd (gR q v hv).1 e
      | false =>
        refine .inr ⟨e, fun hi => ?_, (alive_app_out hdr).1 hq⟩
        rw [dRi q hi] at hdr; cases hdr
  have Sn : g'.S r = S' := updF_same _ _ _
  have So : ∀ q, q ≠ r → g'.S q = g.S q := fun q hq => updF_ne hq
  refine ⟨g', h.upd g' wr a w' (g.S r) h.size (fun i _ => dT i) h.defers hos htp hout (by rw [hsz]; exact Nat.le_refl _) (fun k _ hk => hX k hk) (fun k hk => .inr ⟨r, har, hk⟩)
    (fun _ _ => rfl) (fun _ _ => rfl) (fun _ _ => rfl) (fun _ _ => rfl) (fun q hq hdq => So q (fun e => by subst e; rw [dRr] at hdq; cases hdq)) ?_ ?_ ?_ (fun _ _ => rfl) (fun _ i v hv => by have := dT i; rw [dom_of_get hv] at this; cases this)
    (fun hmv b v hv => by have := dB b; rw [dom_of_get hv] at this; cases this) ?_ ?_ ?_ ?_ ?_⟩
  · rintro k hk (⟨b, hb, e⟩ | ⟨q, hq, hs⟩)
    · exact .inl ⟨b, aB b hb, e⟩
    · rcases aR q hq with rfl | ⟨e1, _, hq1⟩
      · rw [Sn] at hs
        rcases hs with hs | ⟨z, hz, hs⟩
        · exact .inr ⟨q, har, hs⟩
        · exact .inr ⟨z, hal z hz, hs⟩
      · rw [So q e1] at hs
        exact .inr ⟨q, hq1, hs⟩
  · exact fun b hb _ hs => h.dBR b r hb har hs
  · intro q hq hdq k hs hs'
    exact h.dRR q r hq har (fun e => by subst e; rw [dRr] at hdq; cases hdq) k hs hs'
  · intro q v hv
    obtain ⟨rfl, rfl⟩ := gR q v hv
    refine ⟨e, t, ys, rfl, ⟨(h.row hr).1, ?_⟩, ?_⟩
    · rw [Sn]
      exact hR
    · intro k hk
      rw [Sn] at hk
      rw [hsz]
      rcases hk with hk | ⟨z, hz, hk⟩
      · exact h.newR q har k hk
      · exact h.newR z (hal z hz) k hk
  · intro q hq
    rcases dR q hq with hi | e
    · exact h.isl q (dom_of_alive (hal q hi))
    · subst e
      exact h.isl q (dom_of_alive har)
  · exact fun b b' hb hb' e => h.dBB b b' (aB b hb) (aB b' hb') e
  · intro b q hb hq hs
    rcases aR q hq with rfl | ⟨e1, _, hq1⟩
    · rw [Sn] at hs
      rcases hs with hs | ⟨z, hz, hs⟩
      · exact h.dBR b q (aB b hb) har hs
      · exact h.dBR b z (aB b hb) (hal z hz) hs
    · rw [So q e1] at hs
      exact h.dBR b q (aB b hb) hq1 hs
  · intro q1 q2 h1 h2 h12 k hk hk'
    rcases aR q1 h1 with e1 | ⟨e1, hi1, ha1⟩ <;> rcases aR q2 h2 with e2 | ⟨e2, hi2, ha2⟩
    · exact h12 (e1.trans e2.symm)
    · rw [e1, Sn] at hk
      rw [So q2 e2] at hk'
      rcases hk with hk | ⟨z, hz, hk⟩
      · exact h.dRR r q2 har ha2 (fun e => e2 e.symm) k hk hk'
      · exact h.dRR z q2 (hal z hz) ha2 (fun e => hi2 (e ▸ hz)) k hk hk'
    · rw [e2, Sn] at hk'
      rw [So q1 e1] at hk
      rcases hk' with hk' | ⟨z, hz, hk'⟩
      · exact h.dRR r q1 har ha1 (fun e => e1 e.symm) k hk' hk
      · exact h.dRR z q1 (hal z hz) ha1 (fun e => hi1 (e ▸ hz)) k hk' hk
    · rw [So q1 e1] at hk
      rw [So q2 e2] at hk'
      exact h.dRR q1 q2 ha1 ha2 h12 k hk hk'
end
end Go.Proofs.YtcmjbplnjjdcdaaGreat.Ref

namespace Go.Proofs.YtcmjbplnjjdcdaaGreat.Ref
open Go.RowKit Go.Proofs.YtcmjbplnjjdcdaaGreatW.PrintWords Go.Proofs.YtcmjbplnjjdcdaaGreatW.PrintLast

section
variable {P : Program} {T : Tab} {F : Fx} {g : Gh} {st : St} {a : Act} {w : World} {D : Nat → Bool} {ok : Nat → Prop}
theorem TV_int {k : IntKind} {n : Int} {m : Mk} {v : Value} (h : TVR g D w ok (.v (.int k) n m) v) : v = .int k n := by
  simp only [TVR, VR] at h
  obtain ⟨cs, rfl, h⟩ := h
  have : cs = [.int k n] := Foot.now h
  rw [this]; rfl
theorem TV_bool {b : Bool} {m : Mk} {v : Value} (h : TVR g D w ok (.v .bool b m) v) : v = .bool b := by
  simp only [TVR, VR] at h
  obtain ⟨cs, rfl, h⟩ := h
  have : cs = [.bool b] := Foot.now h
  rw [this]; rfl
theorem TV_str {s : ByteArray} {m : Mk} {v : Value} (h : TVR g D w ok (.v .str s m) v) : v = .string s := by
  simp only [TVR, VR] at h
  obtain ⟨cs, rfl, h⟩ := h
  have : cs = [.string s] := Foot.now h
  rw [this]; rfl
theorem int_TV (k : IntKind) (n : Int) (m : Mk) : TVR g D w ok (.v (.int k) n m) (.int k n) := by
  simp only [TVR, VR]; exact ⟨[.int k n], rfl, fun _ _ => rfl⟩
theorem bool_TV (b : Bool) (m : Mk) : TVR g D w ok (.v .bool b m) (.bool b) := by
  simp only [TVR, VR]; exact ⟨[.bool b], rfl, fun _ _ => rfl⟩
theorem str_TV (s : ByteArray) (m : Mk) : TVR g D w ok (.v .str s m) (.string s) := by
  simp only [TVR, VR]; exact ⟨[.string s], rfl, fun _ _ => rfl⟩
theorem evc_TV {c : Value} {tv : TV} {l : List Nat} (h : (evc c).run st = some (tv, l)) : TVR g D w ok tv c := by
  unfold evc at h
  split at h
  · obtain rfl := run_ret h; exact int_TV _ _ _
  · obtain rfl := run_ret h; exact bool_TV _ _
  · obtain rfl := run_ret h; exact str_TV _ _
  · obtain rfl := run_ret h; simp only [TVR]
  · obtain rfl := run_ret h; simp only [TVR]
  · exact (run_fail h).elim
theorem ev_TV (h : Rel F g st a w) {x : Operand} {tv : TV} {l : List Nat} (hx : (ev x).run st = some (tv, l)) : TVR g (dom st) w (F.ok g st) tv (a.eval x) := by
  cases x with
  | tmp t =>
    obtain ⟨v, l', h1, h2, _⟩ := run_rd hx
    cases v with
    | tv v => obtain rfl := run_ret h2; exact h.tmp h1
    | box _ _ _ => exact (run_fail h2).elim
    | row _ _ _ => exact (run_fail h2).elim
  | const c => exact evc_TV hx
  | global _ => exact (run_fail hx).elim
  | func f =>
    obtain rfl := run_ret hx
    simp only [TVR, TVRs]
    exact ⟨[], rfl, rfl⟩
theorem typed_TV {n : Nat} {v tv : TV} {u : Value} {l : List Nat} (h : (typed T n v).run st = some (tv, l)) (hv : TVR g D w ok v u) : TVR g D w ok tv u := by
  cases v with
  | nils =>
    simp only [typed] at h
    split at h
    · obtain rfl := run_ret h
      simp only [TVR] at hv
      simp only [TVR, VR]
      exact ⟨[.slice none 0 0], hv, rfl⟩
    · exact (run_fail h).elim
  | v t x m => obtain rfl := run_ret h; exact hv
  | undef => obtain rfl := run_ret h; exact hv
  | box _ _ => obtain rfl := run_ret h; exact hv
  | ref _ _ => obtain rfl := run_ret h; exact hv
  | elt _ _ _ => obtain rfl := run_ret h; exact hv
  | clo _ _ => obtain rfl := run_ret h; exact hv
  | tup _ => obtain rfl := run_ret h; exact hv
  | nilp => obtain rfl := run_ret h; exact hv
theorem evt_TV (h : Rel F g st a w) {n : Nat} {x : Operand} {tv : TV} {l : List Nat} (hx : (evt T n x).run st = some (tv, l)) : TVR g (dom st) w (F.ok g st) tv (a.eval x) := by
  obtain ⟨v, l1, l2, h1, h2, _⟩ := run_bind hx
  exact typed_TV h2 (ev_TV h h1)
theorem evd_TV (h : Rel F g st a w) {n : Nat} {x : Operand} {t : Ty} {y : t.den} {m : Mk} {l : List Nat} (hx : (evd T n x).run st = some (⟨t, y, m⟩, l)) :
    T.ty n = some t ∧ ∃ cs, a.eval x = valOf t cs ∧ VR g (dom st) w (F.ok g st) t y m cs := by
  obtain ⟨v, l1, l2, h1, h2, _⟩ := run_bind hx
  have hv := evt_TV h h1
  cases v with
  | v t' y' m' =>
    simp only at h2
    split at h2
    · rename_i t2 ht
      obtain ⟨hb, h3⟩ := run_chk h2
      have := run_ret h3
      cases this
      have hv2 : ∃ cs, a.eval x = valOf t cs ∧ VR g (dom st) w (F.ok g st) t y m cs := by simpa only [TVR] using hv
      exact ⟨by rw [ht, Ty.eq_of_beq hb], hv2⟩
    · exact (run_fail h2).elim
  | _ => exact (run_fail h2).elim
theorem num_TV (h : Rel F g st a w) {x : Operand} {n : Int} {l : List Nat} (hx : (num x).run st = some (n, l)) : ∃ k, a.eval x = .int k n := by
  obtain ⟨v, l1, l2, h1, h2, _⟩ := run_bind hx
  have hv := ev_TV h h1
  split at h2
  · obtain rfl := run_ret h2
    exact ⟨_, TV_int hv⟩
  · exact (run_fail h2).elim
theorem VR_cells (h : Rel F g st a w) {t : Ty} {x : t.den} {m : Mk} {cs : List Value} (hv : VR g (dom st) w (F.ok g st) t x m cs) : (valOf t cs).cells.toList = cs := valOf_cells (VR_len hv) (VR_one h.isl hv)
end

/-- What is to be shown of an operation. -/
def OpOk (P : Program) (F : Fx) (o : Oper) (st : St) (wr : Wr) (a : Act) (w : World) : Prop :=
  ∀ (ops : Array Oper) (Kc : Act → World → Prop) (Q : Exit → Act → World → Prop), Region.wanted o (yielded ops a.tmps) = true → (∀ g' a' w', Rel F g' (wr ++ st) a' w' → Kc a' w') → Oper.wp P o a w Kc Q
section
variable {P : Program} {T : Tab} {G : Sigs} {F : Fx} {g : Gh} {st : St} {a : Act} {w : World} {o : Oper} {d : Nat} {l : List Nat} {wr : Wr}
/-- One that yields a value and leaves the memory as it is. -/
theorem op_value (h : Rel F g st a w) (hd : o.dst = some d) (hn : F.slot d) {tv : TV} {v : Value} (hrun : (execOp a.eval o).run P w = .ok (.value v) w) (ht : TVR g (dom st) w (F.ok g st) tv v) :
    OpOk P F o st [(kT d, some (.tv tv))] a w := by
  intro ops Kc Q _ hK
  unfold Oper.wp
  rw [hrun]
  show Kc (a.put o.dst v) w
  rw [hd]
  exact hK g _ _ (h.put hn rfl rfl rfl rfl ht)

theorem op_move (h : Rel F g st a w) {x : Operand} (ho : o.op = .move x ∨ o.op = .assign x) (hn : ∀ d, o.dst = some d → F.slot d) (hr : (opEff T G o).run st = some (.wr wr, l)) : OpOk P F o st wr a w := by
  have hr' : (match o.dst with
    | some d => (evt T o.type x).bind fun v => .ret (Req.wr [(kT d, some (.tv v))])
    | none => (.fail : Pg Req)).run st = some (.wr wr, l) := by
    rcases ho with ho | ho <;> (unfold opEff at hr; rw [ho] at hr; exact hr)
  cases hd : o.dst with
  | none => rw [hd] at hr'; exact (run_fail hr').elim
  | some d =>
    rw [hd] at hr'
    obtain ⟨v, l1, l2, h1, h2, _⟩ := run_bind hr'
    have := run_ret h2
    injection this with this
    subst this
    refine op_value h hd (hn d hd) ?_ (evt_TV h h1)
    rcases ho with ho | ho <;> simp [execOp, ho]

theorem op_pick (h : Rel F g st a w) {c x y : Operand} (ho : o.op = .pick c x y) (hn : ∀ d, o.dst = some d → F.slot d) (hr : (opEff T G o).run st = some (.wr wr, l)) : OpOk P F o st wr a w := by
  unfold opEff at hr
  rw [ho] at hr
  simp only at hr
  cases hd : o.dst with
  | none => rw [hd] at hr; exact (run_fail hr).elim
  | some d =>
    rw [hd] at hr
    obtain ⟨v, l1, l2, h1, h2, _⟩ := run_bind hr
    have hv := ev_TV h h1
    split at h2
    · rename_i b m
      obtain ⟨u, l3, l4, h3, h4, _⟩ := run_bind h2
      have := run_ret h4
      injection this with this
      subst this
      have hb := TV_bool hv
      have hu := evt_TV h h3
      refine op_value h hd (hn d hd) ?_ hu
      cases b <;> simp [execOp, ho, hb, asBool]
    · exact (run_fail h2).elim

theorem arith_TV {D : Nat → Bool} {ok : Nat → Prop} {op : BinOp} {k : IntKind} {x y : Int} {tv : TV} (hr : (arith k op x y).run st = some (tv, l)) (t : TypeId) (X Y : Operand) :
    ∃ v, (do eqGuard op t X Y (.int k x) (.int k y); binOp op t (.int k x) (.int k y) : Sem Value).run P w = .ok v w ∧ TVR g D w ok tv v := by
  cases op <;> simp only [arith] at hr <;> first
    | exact (run_fail hr).elim
    | (obtain ⟨hc, hr⟩ := run_chk hr
       obtain rfl := run_ret hr
       have hy : ¬ y = 0 := by simpa using hc
       refine ⟨_, by simp [eqGuard, binOp, Op.intDiv, hy]; rfl, ?_⟩
       exact int_TV _ _ _)
    | (obtain rfl := run_ret hr
       refine ⟨_, by simp [eqGuard, binOp, Op.intArith]; rfl, ?_⟩
       exact int_TV _ _ _)
    | (obtain rfl := run_ret hr
       refine ⟨_, by simp [eqGuard, binOp, Op.intBits]; rfl, ?_⟩
       exact int_TV _ _ _)
    | (obtain rfl := run_ret hr
       refine ⟨_, by simp [eqGuard, binOp, Op.intCmp]; rfl, ?_⟩
       first | exact bool_TV _ _ | (simp only [gt_iff_lt, ge_iff_le]; exact bool_TV _ _))
end
end Go.Proofs.YtcmjbplnjjdcdaaGreat.Ref

namespace Go.Proofs.YtcmjbplnjjdcdaaGreat.Ref
open Go.RowKit Go.Proofs.YtcmjbplnjjdcdaaGreatW.PrintWords Go.Proofs.YtcmjbplnjjdcdaaGreatW.PrintLast

section
variable {P : Program} {T : Tab} {G : Sigs} {F : Fx} {g : Gh} {st : St} {a : Act} {w : World} {o : Oper} {d : Nat} {l : List Nat} {wr : Wr} {D : Nat → Bool} {ok : Nat → Prop}
theorem texts_TV {op : BinOp} {x y : ByteArray} {tv : TV} (hr : (texts op x y).run st = some (tv, l)) (t : TypeId) (X Y : Operand) :
    ∃ v, (do eqGuard op t X Y (.string x) (.string y); binOp op t (.string x) (.string y) : Sem Value).run P w = .ok v w ∧ TVR g D w ok tv v := by
  cases op <;> simp only [texts] at hr <;> first
    | exact (run_fail hr).elim
    | (obtain ⟨hc, hr⟩ := run_chk hr
       obtain rfl := run_ret hr
       have hy : ¬ ((x.size + y.size : Nat) : Int) > IntKind.i64.max := by
         have : x.size + y.size ≤ 9223372036854775807 := of_decide_eq_true hc
         have e : IntKind.i64.max = 9223372036854775807 := by decide
         rw [e]; omega
       refine ⟨.string (x ++ y), ?_, str_TV _ _⟩
       have e1 : (binOp .add t (.string x) (.string y)).run P w = .ok (.string (x ++ y)) w := by
         show (Op.stringOp .add x y).run P w = _
         unfold Op.stringOp
         simp only [if_neg hy]
         rfl
       simp [eqGuard, e1])
    | (obtain rfl := run_ret hr
       refine ⟨_, by simp [eqGuard, binOp, Op.stringOp]; rfl, ?_⟩
       first | exact bool_TV _ _ | (simp only [Bool.not_or]; exact bool_TV _ _))
theorem bools_run {t : TypeId} (hu : P.underlying t = some .bool) (x y : Bool) (X Y : Operand) :
    (do eqGuard .eql t X Y (.bool x) (.bool y); binOp .eql t (.bool x) (.bool y) : Sem Value).run P w = .ok (.bool (x == y)) w ∧
    (do eqGuard .neq t X Y (.bool x) (.bool y); binOp .neq t (.bool x) (.bool y) : Sem Value).run P w = .ok (.bool (x != y)) w := by
  have h1 : (Op.equal t (.bool x) (.bool y)).run P w = .ok (x == y) w := run_equalIn_bool' w 9999 t x y hu
  constructor
  · have : (binOp .eql t (.bool x) (.bool y)).run P w = .ok (.bool (x == y)) w := by
      show (do pure (.bool (← Op.equal t (.bool x) (.bool y))) : Sem Value).run P w = _
      rw [Sem.run_bind, h1]; rfl
    simp [eqGuard, this]
  · have : (binOp .neq t (.bool x) (.bool y)).run P w = .ok (.bool (x != y)) w := by
      show (do pure (.bool (!(← Op.equal t (.bool x) (.bool y)))) : Sem Value).run P w = _
      rw [Sem.run_bind, h1]; rfl
    simp [eqGuard, this]
theorem pair2_cells {x : Int × Int} {m : Mk} {v : Value} (h : TVR g D w ok (.v (.pair (.int .i64) (.int .i64)) x m) v) : v = .agg #[.int .i64 x.1, .int .i64 x.2] := by
  simp only [TVR] at h
  obtain ⟨cs, rfl, h⟩ := h
  have h1 := VR_pair h
  have h2 : cs.take 1 = [.int .i64 x.1] := by
    have := h1.1
    simp only [VR] at this
    exact Foot.now this
  have h3 : cs.drop 1 = [.int .i64 x.2] := by
    have := h1.2
    simp only [VR] at this
    exact Foot.now this
  have : cs = [.int .i64 x.1, .int .i64 x.2] := by
    rw [← List.take_append_drop 1 cs, h2, h3]; rfl
  rw [this]; rfl
theorem op_bin (hT : TabOk P T) (h : Rel F g st a w) {op : BinOp} {t t' : TypeId} {x y : Operand} (ho : o.op = .binOp op t x y t') (hn : ∀ d, o.dst = some d → F.slot d) (hr : (opEff T G o).run st = some (.wr wr, l)) : OpOk P F o st wr a w := by
  unfold opEff at hr
  rw [ho] at hr
  simp only at hr
  cases hd : o.dst with
  | none => rw [hd] at hr; exact (run_fail hr).elim
  | some d =>
    rw [hd] at hr
    simp only at hr
    split at hr
    · rename_i n hs
      obtain ⟨rfl, rfl⟩ : op = .shr ∧ y = .const (.int .u64 (.ofNat n)) := by
        unfold shrBy at hs
        split at hs
        · injection hs with hs
          subst hs
          exact ⟨rfl, rfl⟩
        · cases hs
      obtain ⟨u, l1, l2, h1, h2, _⟩ := run_bind hr
      split at h2
      · rename_i k i m
        obtain ⟨hb, h3⟩ := run_chk h2
        have := run_ret h3
        injection this with this
        subst this
        have hx := TV_int (ev_TV h h1)
        have hle : (Int.ofNat n) ≤ k.bits := by
          have := Nat.le_of_ble_eq_true hb
          exact Int.ofNat_le.2 this
        refine op_value h hd (hn d hd) (v := .int k (i / 2 ^ n)) ?_ (int_TV _ _ _)
        have hy : a.eval (.const (.int .u64 (.ofNat n))) = .int .u64 (.ofNat n) := rfl
        unfold execOp
        simp only [ho, hx, hy, eqGuard_shr, binOp_shr, shift_shr k .u64 i (Int.ofNat n) (Int.natCast_nonneg n) hle]
        rfl
      · exact (run_fail h2).elim
    rename_i hsn
    clear hsn
    obtain ⟨u, l1, l2, h1, h2, _⟩ := run_bind hr
    obtain ⟨v, l3, l4, h3, h4, _⟩ := run_bind h2
    obtain ⟨c, l5, l6, h5, h6, _⟩ := run_bind h4
    have := run_ret h6
    injection this with this
    subst this
    have hu := evt_TV h h1
    have hv := evt_TV h h3
    have fin : ∀ {z : Value}, (do eqGuard op t x y (a.eval x) (a.eval y); binOp op t (a.eval x) (a.eval y) : Sem Value).run P w = .ok z w → TVR g (dom st) w (F.ok g st) c z → OpOk P F o st [(kT d, some (.tv c))] a w := by
      intro z hz hc
      refine op_value h hd (hn d hd) ?_ hc
      unfold execOp
      simp only [ho]
      rw [Sem.run_bind, hz]
      rfl
    unfold binTV at h5
    split at h5
    · obtain ⟨hk, h5⟩ := run_chk h5
      rw [← kindEq_eq hk] at hv
      have e1 := TV_int hu
      have e2 := TV_int hv
      obtain ⟨z, hz, hc⟩ := arith_TV (P := P) (w := w) (g := g) (D := dom st) (ok := F.ok g st) h5 t x y
      exact fin (by rw [e1, e2]; exact hz) hc
    · have e1 := TV_str hu
      have e2 := TV_str hv
      obtain ⟨z, hz, hc⟩ := texts_TV (P := P) (w := w) (g := g) (D := dom st) (ok := F.ok g st) h5 t x y
      exact fin (by rw [e1, e2]; exact hz) hc
    · have e1 := TV_bool hu
      have e2 := TV_bool hv
      split at h5
      · rename_i ht
        obtain rfl := run_ret h5
        exact fin (by rw [e1, e2]; exact (bools_run (hT.ty _ _ ht).und _ _ x y).1) (bool_TV _ _)
      · rename_i ht
        obtain rfl := run_ret h5
        exact fin (by rw [e1, e2]; exact (bools_run (hT.ty _ _ ht).und _ _ x y).2) (bool_TV _ _)
      · exact (run_fail h5).elim
    · have e1 := pair2_cells hu
      have e2 := pair2_cells hv
      split at h5
      · rename_i ht
        unfold same2 at h5
        split at h5
        · obtain rfl := run_ret h5
          exact fin (by rw [e1, e2]; exact (hT.eq2 _ ht _ _ _ _ x y w).1) (bool_TV _ _)
        · obtain rfl := run_ret h5
          exact fin (by rw [e1, e2]; exact (hT.eq2 _ ht _ _ _ _ x y w).2) (bool_TV _ _)
        · exact (run_fail h5).elim
      · exact (run_fail h5).elim
    · exact (run_fail h5).elim

theorem op_un (h : Rel F g st a w) {op : UnOp} {t : TypeId} {x : Operand} (ho : o.op = .unOp op t x) (hn : ∀ d, o.dst = some d → F.slot d) (hr : (opEff T G o).run st = some (.wr wr, l)) : OpOk P F o st wr a w := by
  unfold opEff at hr
  rw [ho] at hr
  simp only at hr
  split at hr
  · rename_i d hd
    obtain ⟨u, l1, l2, h1, h2, _⟩ := run_bind hr
    have hu := ev_TV h h1
    split at h2
    · have := run_ret h2
      injection this with this
      subst this
      have e1 := TV_bool hu
      exact op_value h hd (hn d hd) (by simp [execOp, ho, e1, Op.unary]) (bool_TV _ _)
    · exact (run_fail h2).elim
  · exact (run_fail hr).elim

theorem zero_run (hT : TabOk P T) {n : Nat} {t : Ty} (ht : T.ty n = some t) (w : World) : (zeroValue n).run P w = .ok (valOf t (zc t)) w := by
  have := (hT.ty n t ht).zero
  obtain ⟨i, hi, hz⟩ := Option.map_eq_some_iff.1 this
  simp [zeroValue, typeInfo, hi, hz]
theorem valOf_zc (t : Ty) : (valOf t (zc t)).cells = (zc t).toArray := by cases t <;> simp [valOf, zc, Value.cells]
theorem op_alloc (hT : TabOk P T) (h : Rel F g st a w) {E : TypeId} (ho : o.op = .alloc E) (hn : ∀ d, o.dst = some d → F.slot d) (hr : (opEff T G o).run st = some (.wr wr, l)) : OpOk P F o st wr a w := by
  unfold opEff at hr
  rw [ho] at hr
  simp only at hr
  split at hr
  · rename_i d t hd ht
    obtain ⟨l1, hf, h2, _⟩ := run_fresh hr
    have := run_ret h2
    injection this with this
    subst this
    intro ops Kc Q _ hK
    obtain ⟨g', hg⟩ := h.newBox (hn d hd) E hf (zc_VR (g := g) (D := dom st) (w := w) (ok := F.ok g st) t)
    unfold Oper.wp
    have hrun : (execOp a.eval o).run P w = .ok (.value (.pointer (some ⟨w.heap.size, 0, none⟩))) (w.alloc (.cells (zc t).toArray E)) := by
      simp [execOp, ho, Instr.alloc, zero_run hT ht, newVar, newRow, valOf_zc]
    rw [hrun]
    show Kc (a.put o.dst _) _
    rw [hd]
    exact hK g' _ _ hg
  · exact (run_fail hr).elim
theorem op_box (hT : TabOk P T) (h : Rel F g st a w) {E : TypeId} {x : Operand} (ho : o.op = .box E x) (hn : ∀ d, o.dst = some d → F.slot d) (hr : (opEff T G o).run st = some (.wr wr, l)) : OpOk P F o st wr a w := by
  unfold opEff at hr
  rw [ho] at hr
  simp only at hr
  cases hd : o.dst with
  | none => rw [hd] at hr; exact (run_fail hr).elim
  | some d =>
    rw [hd] at hr
    obtain ⟨⟨t, y, m⟩, l1, l2, h1, h2, _⟩ := run_bind hr
    obtain ⟨l3, hf, h3, _⟩ := run_fresh h2
    have := run_ret h3
    injection this with this
    subst this
    obtain ⟨ht, cs, e, hv⟩ := evd_TV h h1
    intro ops Kc Q _ hK
    obtain ⟨g', hg⟩ := h.newBox (hn d hd) E hf hv
    unfold Oper.wp
    have hrun : (execOp a.eval o).run P w = .ok (.value (.pointer (some ⟨w.heap.size, 0, none⟩))) (w.alloc (.cells cs.toArray E)) := by
      have hc : (valOf t cs).cells = cs.toArray := by
        have := congrArg List.toArray (VR_cells h hv)
        simpa using this
      simp [execOp, ho, Instr.box, newVar, newRow, e, hc]
    rw [hrun]
    show Kc (a.put o.dst _) _
    rw [hd]
    exact hK g' _ _ hg

theorem heap_kd : ∀ t : Ty, Kd.Heap t.kd
  | .int k => Kd.heap_int k
  | .bool => Kd.heap_bool
  | .str => Kd.heap_string
  | .slice e t => Kd.heap_slice e (heap_kd t)
  | .pair a b => Kd.heap_pair (heap_kd a) (heap_kd b)
theorem K_FK {t : Ty} {x : t.den} {cs : List Value} (h : t.kd.K w x cs) : Kd.FK t.kd w (fun _ => True) x cs := fun W' hW => (heap_kd t).K (fun k hk => hW k trivial hk) h
theorem flat_VR : ∀ {t : Ty} {x : t.den} {m : Mk} {cs : List Value}, t.flat = true → VR g D w ok t x m cs → Kd.FK t.kd w ok x cs
  | .int _, x, _, cs, _, h => by simp only [VR] at h; exact h
  | .bool, x, _, cs, _, h => by simp only [VR] at h; exact h
  | .str, x, _, cs, _, h => by simp only [VR] at h; exact h
  | .pair a b, x, m, cs, hf, h => by
    simp only [Ty.flat, Bool.and_eq_true] at hf
    have h1 := VR_pair h
    have := pair_FK (flat_VR hf.1 h1.1) (flat_VR hf.2 h1.2)
    rwa [List.take_append_drop] at this
theorem isAgg_run (hT : TabOk P T) {n : Nat} {t : Ty} (ht : T.ty n = some t) (w : World) : (isAgg n).run P w = .ok t.isPair w := by
  have hu := (hT.ty n t ht).und
  cases t with
  | int k => simp [isAgg, run_underlying hu, Ty.isPair]
  | bool => simp [isAgg, run_underlying hu, Ty.isPair]
  | str => simp [isAgg, run_underlying hu, Ty.isPair]
  | slice e t => simp [isAgg, run_underlying hu.1, Ty.isPair]
  | pair a b =>
    obtain ⟨fs, hu⟩ := hu
    simp [isAgg, run_underlying hu, Ty.isPair]
theorem size_run (hT : TabOk P T) {n : Nat} {t : Ty} (ht : T.ty n = some t) (w : World) : (sizeOf n).run P w = .ok t.sz w := by
  obtain ⟨i, hi, hz⟩ := Option.map_eq_some_iff.1 (hT.ty n t ht).size
  simp [sizeOf, typeInfo, hi, hz]
theorem add_zero_addr (b : Addr) : b.add 0 = b := by simp [Addr.add]
theorem load_run (hT : TabOk P T) {n : Nat} {t : Ty} (ht : T.ty n = some t) {b : Addr} {cs : List Value} (hl : cs.length = t.sz) (hc : Cells w b cs) : (Instr.loadAt n (.pointer (some b))).run P w = .ok (valOf t cs) w := by
  unfold Instr.loadAt Instr.sureAddr loadVar
  simp only [Sem.run_bind, Sem.run_pure, Result.andThen_ok, isAgg_run hT ht]
  cases hp : t.isPair with
  | true =>
    cases t with
    | pair x y =>
      simp only [if_true, Sem.run_bind, size_run hT ht, Result.andThen_ok]
      rw [← hl, run_loadCells_list (P := P) w b cs hc]
      rfl
    | _ => cases hp
  | false =>
    have hl1 : cs.length = 1 := by cases t <;> first | exact hl | cases hp
    match cs, hl1 with
    | [u], _ =>
      have := hc 0 u rfl
      rw [add_zero_addr] at this
      simp only [Bool.false_eq_true, if_false, run_load, this]
      cases t <;> first | rfl | cases hp
theorem cells_of_block {b o : Nat} {c1 mid c2 : List Value} {ty : TypeId} {fr : Nat × Nat} (h : w.heap[b]? = some (.cells (c1 ++ mid ++ c2).toArray ty fr)) (hl : c1.length = o) : Cells w ⟨b, o, none⟩ mid := by
  intro j u hu
  rw [Addr.add_mid]
  have hj := (List.getElem?_eq_some_iff.1 hu).1
  simp only [World.cell?, h, Option.isSome_none, Bool.false_eq_true, if_false, List.getElem?_toArray]
  rw [List.append_assoc, List.getElem?_append_right (by omega), List.getElem?_append_left (by omega), ← hu]
  congr 1; omega
theorem op_load (hT : TabOk P T) (h : Rel F g st a w) {L : TypeId} {x : Operand} (ho : o.op = .load L x) (hn : ∀ d, o.dst = some d → F.slot d) (hr : (opEff T G o).run st = some (.wr wr, l)) : OpOk P F o st wr a w := by
  unfold opEff at hr
  rw [ho] at hr
  simp only at hr
  split at hr
  · rename_i d t hd ht
    obtain ⟨u, l1, l2, h1, h2, _⟩ := run_bind hr
    have hu := ev_TV h h1
    have fin : ∀ {tv : TV} {v : Value}, (Instr.loadAt L (a.eval x)).run P w = .ok v w → TVR g (dom st) w (F.ok g st) tv v → OpOk P F o st [(kT d, some (.tv tv))] a w := by
      intro tv v hrun ht
      exact op_value h hd (hn d hd) (by simp [execOp, ho, hrun]) ht
    split at h2
    · rename_i b p
      obtain ⟨vv, l3, hb, h3, _⟩ := run_rd h2
      split at h3
      · rename_i t0 y m
        split at h3
        · rename_i t' z m' hg
          obtain ⟨hb2, h4⟩ := run_chk h3
          have := run_ret h4
          injection this with this
          subst this
          have e := Ty.eq_of_beq hb2
          subst e
          obtain ⟨hτ, cs, ty, hh, hv⟩ := h.box hb
          obtain ⟨c1, mid, c2, rfl, hl, hv'⟩ := getp_VR hg hv
          simp only [TVR] at hu
          rw [hτ] at hu
          refine fin (v := valOf t' mid) ?_ (by simp only [TVR]; exact ⟨mid, rfl, hv'⟩)
          rw [hu.1]
          exact load_run hT ht (VR_len hv') (cells_of_block hh hl)
        · exact (run_fail h3).elim
      · exact (run_fail h3).elim
    · obtain ⟨hb2, h4⟩ := run_chk h2
      have := run_ret h4
      injection this with this
      subst this
      have e := Ty.eq_of_beq hb2
      subst e
      simp only [TVR] at hu
      obtain ⟨b, cs, e1, hf⟩ := hu
      have hK := (Foot.now hf).1
      refine fin (v := valOf _ cs) ?_ (by simp only [TVR]; exact ⟨cs, rfl, VR_no.2 (Foot.imp hf (fun _ h => h.1))⟩)
      rw [e1]
      exact load_run hT ht (by rw [← kd_sz]; exact Kd.K_len _ hK) (Foot.now hf).2
    · rename_i r i p
      obtain ⟨vv, l3, hb, h3, _⟩ := run_rd h2
      split at h3
      · rename_i e0 t0 xs
        obtain ⟨hir, h3⟩ := run_chk h3
        split at h3
        · rename_i t' z m' hg
          obtain ⟨hb2, h4⟩ := run_chk h3
          have := run_ret h4
          injection this with this
          subst this
          rw [Bool.and_eq_true] at hb2
          have e := Ty.eq_of_beq hb2.1
          subst e
          obtain ⟨hσ, hR⟩ := h.row hb
          simp only [inRange, Bool.and_eq_true, decide_eq_true_eq] at hir
          simp only [TVR] at hu
          obtain ⟨b, n, c, e1, e2, _⟩ := hu
          obtain ⟨A, c', e3, hcl, hC⟩ := Kd.R_reads hR
          rw [e1] at e3
          injection e3 with e4 e5 e6
          subst e5
          obtain ⟨ad, cc, e7, hl, hK, hcc⟩ := Kd.C_get hC t0.zero i hir.1 (by omega)
          rw [← e4] at e7
          injection e7 with e7
          subst e7
          have hfk : VR g (dom st) w (fun _ => True) t0 (xs.getD i.toNat t0.zero) .no cc := VR_no.2 (K_FK hK)
          obtain ⟨c1, mid, c2, e8, hl2, hv'⟩ := getp_VR hg hfk
          have hm' : m' = .no ∨ True := .inr trivial
          refine fin (v := valOf t' mid) ?_ ?_
          · rw [e2, hσ]
            refine load_run hT ht (VR_len hv') (fun j u hu => ?_)
            have hj := (List.getElem?_eq_some_iff.1 hu).1
            have h5 := hcc (c1.length + j) u (by rw [e8, List.append_assoc, List.getElem?_append_right (by omega), List.getElem?_append_left (by omega), ← hu]; congr 1; omega)
            rw [Addr.add_mid] at h5 ⊢
            rw [kd_sz] at h5
            rw [← h5]
            congr 2
            omega
          · simp only [TVR]
            refine ⟨mid, rfl, VR_no.2 ?_⟩
            exact FK_flat (w := w) (ok := fun _ => True) hb2.2 (flat_VR hb2.2 hv')
        · exact (run_fail h3).elim
      · exact (run_fail h3).elim
    · exact (run_fail h2).elim
  · exact (run_fail hr).elim
end
end Go.Proofs.YtcmjbplnjjdcdaaGreat.Ref

namespace Go.Proofs.YtcmjbplnjjdcdaaGreat.Ref
open Go.RowKit Go.Proofs.YtcmjbplnjjdcdaaGreatW.PrintWords Go.Proofs.YtcmjbplnjjdcdaaGreatW.PrintLast

section
variable {P : Program} {T : Tab} {G : Sigs} {F : Fx} {g : Gh} {st : St} {a : Act} {w : World} {o : Oper} {d : Nat} {l : List Nat} {wr : Wr} {D : Nat → Bool} {ok : Nat → Prop}

theorem FK_slice {e : Nat} {t : Ty} {x : List t.den} {cs : List Value} (h : Kd.FK (Ty.slice e t).kd w ok x cs) : ∃ A c, cs = [.slice A x.length c] ∧ x.length ≤ c ∧ Foot (fun W => t.kd.C W A x.length x) w ok := by
  obtain ⟨A, c, e1, hl, _⟩ := Foot.now h
  refine ⟨A, c, e1, hl, fun W' hW => ?_⟩
  obtain ⟨A', c', e2, _, hC⟩ := h W' hW
  rw [e1] at e2
  injection e2 with e2
  injection e2 with e3 _ _
  rw [e3]; exact hC
theorem slice_FK {e : Nat} {t : Ty} {x : List t.den} {A : Option Addr} {c n : Nat} (hn : x.length = n) (hl : n ≤ c) (h : Foot (fun W => t.kd.C W A x.length x) w ok) : Kd.FK (Ty.slice e t).kd w ok x [.slice A n c] := by
  subst hn
  exact fun W' hW => ⟨A, c, rfl, hl, h W' hW⟩
/-- A cell that must be read lies in the footprint. -/
theorem foot_block {p : World → Prop} {b : Addr} (h : Foot p w ok) (hp : ∀ W', p W' → ∃ u, W'.cell? b = some u) : ok b.block ∧ b.block < w.heap.size := by
  obtain ⟨u, hu⟩ := hp w h.now
  have hlt := World.block_lt_of_cell? w b hu
  refine ⟨Classical.byContradiction fun hn => ?_, hlt⟩
  obtain ⟨W', h1, h2⟩ := Kd.emptied w b.block
  obtain ⟨u', hu'⟩ := hp W' (h W' (fun k hk _ => h1 k (fun e => hn (e ▸ hk))))
  rw [h2 b rfl] at hu'
  cases hu'
/-- An element of a slice that is read. -/
theorem elem_ref {t : Ty} {x : List t.den} {A : Option Addr} {i : Int} (h : Foot (fun W => t.kd.C W A x.length x) w ok) (h0 : 0 ≤ i) (h1 : i < x.length) (z : t.den) :
    ∃ ad cs, A = some ad ∧ Foot (fun W => t.kd.K W (x.getD i.toNat z) cs ∧ Cells W (ad.add (i.toNat * t.sz)) cs) w ok := by
  obtain ⟨ad, cs, e, hl, _, hc⟩ := Kd.C_get h.now z i h0 h1
  refine ⟨ad, cs, e, ?_⟩
  have hget : ∀ W', t.kd.C W' A x.length x → ∃ c', c'.length = t.kd.sz ∧ t.kd.K W' (x.getD i.toNat z) c' ∧ ∀ j u, c'[j]? = some u → W'.cell? (ad.add (i.toNat * t.kd.sz + j)) = some u := by
    intro W' hC
    obtain ⟨ad', c', e', hl', hk', hc'⟩ := Kd.C_get hC z i h0 h1
    rw [e] at e'
    injection e' with e'
    subst e'
    exact ⟨c', hl', hk', hc'⟩
  have hpos : 0 < t.kd.sz := by rw [kd_sz]; exact sz_pos t
  have hb := foot_block (b := ad.add (i.toNat * t.kd.sz + 0)) h (fun W' hC => by
    obtain ⟨c', hl', _, hc'⟩ := hget W' hC
    exact ⟨_, hc' 0 _ (List.getElem?_eq_getElem (by omega))⟩)
  have hblk : ∀ n, (ad.add n).block = ad.block := fun n => by unfold Addr.add; split <;> rfl
  rw [hblk] at hb
  intro W' hW
  obtain ⟨c', hl', hk', hc'⟩ := hget W' (h W' hW)
  have same : ∀ n, W'.cell? (ad.add n) = w.cell? (ad.add n) := fun n => World.cell?_of_block (by rw [hblk]; exact hW _ hb.1 hb.2)
  have hcs : c' = cs := by
    apply List.ext_getElem?
    intro j
    by_cases hj : j < t.kd.sz
    · have h1 := hc' j _ (List.getElem?_eq_getElem (by omega))
      have h2 := hc j _ (List.getElem?_eq_getElem (by omega))
      rw [same, h2] at h1
      rw [List.getElem?_eq_getElem (by omega), List.getElem?_eq_getElem (by omega)]
      exact h1.symm
    · rw [List.getElem?_eq_none (by omega), List.getElem?_eq_none (by omega)]
  subst hcs
  refine ⟨hk', fun j u hu => ?_⟩
  rw [Go.Addr.add_add, ← kd_sz]
  exact hc' j u hu
theorem sub_ref {t t' : Ty} {x : t.den} {y : t'.den} {m' : Mk} {p : List Bool} {b : Addr} {cs : List Value} (h : Foot (fun W => t.kd.K W x cs ∧ Cells W b cs) w ok) (hg : getp t x .no p = some ⟨t', y, m'⟩) :
    ∃ mid, Foot (fun W => t'.kd.K W y mid ∧ Cells W (b.add (offp t p)) mid) w ok := by
  have hm : ∀ {p : List Bool} {t : Ty} {x : t.den} {t' : Ty} {y : t'.den} {m' : Mk}, getp t x .no p = some ⟨t', y, m'⟩ → m' = .no := by
    intro p
    induction p with
    | nil =>
      intro t x t' y m' h
      have : (⟨t, x, .no⟩ : (t' : Ty) × t'.den × Mk) = ⟨t', y, m'⟩ := by cases t <;> exact Option.some.inj h
      cases this; rfl
    | cons c p ih =>
      intro t x t' y m' h
      cases t with
      | pair a b => cases c <;> exact ih h
      | _ => cases c <;> cases h
  have e := hm hg
  subst e
  obtain ⟨c1, mid, c2, e, hl, hv⟩ := getp_VR (g := ⟨fun _ => 0, fun _ => .bool, fun _ => undef, fun _ => .bool, fun _ _ => False⟩) (D := fun _ => false) hg (VR_no.2 (Foot.imp h (fun _ h => h.1)))
  refine ⟨mid, fun W' hW => ⟨(VR_no.1 hv) W' hW, fun j u hu => ?_⟩⟩
  have hj := (List.getElem?_eq_some_iff.1 hu).1
  have := (h W' hW).2 (c1.length + j) u (by rw [e, List.append_assoc, List.getElem?_append_right (by omega), List.getElem?_append_left (by omega), ← hu]; congr 1; omega)
  rw [Go.Addr.add_add, ← hl]
  exact this

theorem offp_app : ∀ {p q : List Bool} {t : Ty} {x : t.den} {m : Mk} {t' : Ty} {y : t'.den} {m' : Mk}, getp t x m p = some ⟨t', y, m'⟩ → offp t (p ++ q) = offp t p + offp t' q
  | [], q, t, x, m, t', y, m', h => by
    have : (⟨t, x, m⟩ : (t' : Ty) × t'.den × Mk) = ⟨t', y, m'⟩ := by cases t <;> exact Option.some.inj h
    cases this
    have : offp t [] = 0 := by cases t <;> rfl
    rw [this, Nat.zero_add]; rfl
  | false :: p, q, .pair a b, x, m, t', y, m', h => by
    have := offp_app (q := q) (p := p) h
    show offp a (p ++ q) = offp a p + offp t' q
    exact this
  | true :: p, q, .pair a b, x, m, t', y, m', h => by
    have := offp_app (q := q) (p := p) h
    show a.sz + offp b (p ++ q) = a.sz + offp b p + offp t' q
    omega
  | false :: p, q, .int _, x, m, t', y, m', h => by cases h
  | false :: p, q, .bool, x, m, t', y, m', h => by cases h
  | false :: p, q, .str, x, m, t', y, m', h => by cases h
  | false :: p, q, .slice _ _, x, m, t', y, m', h => by cases h
  | true :: p, q, .int _, x, m, t', y, m', h => by cases h
  | true :: p, q, .bool, x, m, t', y, m', h => by cases h
  | true :: p, q, .str, x, m, t', y, m', h => by cases h
  | true :: p, q, .slice _ _, x, m, t', y, m', h => by cases h

theorem field_run {S f : Nat} {t : Ty} {p : List Bool} (hf : FpF P S f t p) (b : Addr) (w : World) : (Instr.fieldAt S (.pointer (some b)) f).run P w = .ok (.pointer (some (b.add (offp t p)))) w := by
  obtain ⟨fs, fd, s', h1, h2, h3, _, h4, _⟩ := hf
  have h5 : ¬ s'.sz = 0 := by have := sz_pos s'; omega
  obtain ⟨i, hi, hz⟩ := Option.map_eq_some_iff.1 h4
  have hs : (sizeOf fd.type).run P w = .ok s'.sz w := by simp [sizeOf, typeInfo, hi, hz]
  have hp : (fieldPlace b fd).run P w = .ok (b.add fd.offset) w := by
    unfold fieldPlace
    rw [Sem.run_bind, hs, Result.andThen_ok, if_neg h5]
    rfl
  unfold Instr.fieldAt
  simp [run_underlying h1, h2, Instr.sureAddr, hp, h3]
theorem op_field (hT : TabOk P T) (h : Rel F g st a w) {S f : Nat} {x : Operand} (ho : o.op = .fieldAddr S x f) (hn : ∀ d, o.dst = some d → F.slot d) (hr : (opEff T G o).run st = some (.wr wr, l)) : OpOk P F o st wr a w := by
  unfold opEff at hr
  rw [ho] at hr
  simp only at hr
  split at hr
  · rename_i d p hd hp
    obtain ⟨u, l1, l2, h1, h2, _⟩ := run_bind hr
    have hu := ev_TV h h1
    have fin : ∀ {tv : TV} {v : Value}, (Instr.fieldAt S (a.eval x) f).run P w = .ok v w → TVR g (dom st) w (F.ok g st) tv v → OpOk P F o st [(kT d, some (.tv tv))] a w := by
      intro tv v hrun ht
      exact op_value h hd (hn d hd) (by simp [execOp, ho, hrun]) ht
    split at h2
    · rename_i b q
      obtain ⟨vv, l3, hb, h3, _⟩ := run_rd h2
      split at h3
      · rename_i t0 x0 m0
        split at h3
        · rename_i t1 y1 m1 t2 hg ht
          obtain ⟨hb2, h4⟩ := run_chk h3
          have := run_ret h4
          injection this with this
          subst this
          have e := Ty.eq_of_beq hb2
          subst e
          simp only [TVR] at hu
          have hτ := (h.box hb).1
          refine fin (v := .pointer (some ((⟨g.β b, offp (g.τ b) q, none⟩ : Addr).add (offp t1 p)))) ?_ ?_
          · rw [hu.1]
            exact field_run (hT.fp S f p t1 hp ht) _ w
          · simp only [TVR]
            refine ⟨?_, hu.2⟩
            rw [Addr.add_mid, hτ, offp_app hg]
        · exact (run_fail h3).elim
      · exact (run_fail h3).elim
    · rename_i t y
      split at h2
      · rename_i t' z m' t2 hg ht
        obtain ⟨hb2, h4⟩ := run_chk h2
        have := run_ret h4
        injection this with this
        subst this
        have e := Ty.eq_of_beq hb2
        subst e
        simp only [TVR] at hu
        obtain ⟨b, cs, e1, hf⟩ := hu
        obtain ⟨mid, hf'⟩ := sub_ref hf hg
        refine fin (v := .pointer (some (b.add (offp t p)))) ?_ ?_
        · rw [e1]
          exact field_run (hT.fp S f p t hp ht) _ w
        · simp only [TVR]
          exact ⟨_, mid, rfl, hf'⟩
      · exact (run_fail h2).elim
    · rename_i r i q
      obtain ⟨vv, l3, hb, h3, _⟩ := run_rd h2
      split at h3
      · rename_i e0 t0 xs
        split at h3
        · rename_i t1 y1 m1 t2 hg ht
          obtain ⟨hb2, h4⟩ := run_chk h3
          have := run_ret h4
          injection this with this
          subst this
          have e := Ty.eq_of_beq hb2
          subst e
          simp only [TVR] at hu
          obtain ⟨b, n, c, e1, e2, hd2⟩ := hu
          have hσ := (h.row hb).1
          refine fin (v := .pointer (some ((⟨b, i.toNat * (g.σ r).sz + offp (g.σ r) q, none⟩ : Addr).add (offp t1 p)))) ?_ ?_
          · rw [e2]
            exact field_run (hT.fp S f p t1 hp ht) _ w
          · simp only [TVR]
            refine ⟨b, n, c, e1, ?_, hd2⟩
            rw [Addr.add_mid, hσ, offp_app hg, Nat.add_assoc]
        · exact (run_fail h3).elim
      · exact (run_fail h3).elim
    · exact (run_fail h2).elim
  · exact (run_fail hr).elim

theorem index_run {t e : Nat} {k : IntKind} {i : Int} {s n c : Nat} {b : Addr} (hu : P.underlying t = some (.slice e)) (hs : (P.info? e).map (·.size) = some s) (h0 : 0 ≤ i) (h1 : i < n) (w : World) :
    (Instr.indexAt t (.slice (some b) n c) (.int k i)).run P w = .ok (.pointer (some (b.add (i.toNat * s)))) w := by
  obtain ⟨j, hi, hz⟩ := Option.map_eq_some_iff.1 hs
  have hs' : (sizeOf e).run P w = .ok s w := by simp [sizeOf, typeInfo, hi, hz]
  unfold Instr.indexAt
  simp [asIntOf, run_underlying hu, h0, h1, hs']
theorem op_indexAddr (hT : TabOk P T) (h : Rel F g st a w) {S : Nat} {x i : Operand} (ho : o.op = .indexAddr S x i) (hn : ∀ d, o.dst = some d → F.slot d) (hr : (opEff T G o).run st = some (.wr wr, l)) : OpOk P F o st wr a w := by
  unfold opEff at hr
  rw [ho] at hr
  simp only at hr
  split at hr
  · rename_i d e t hd ht
    obtain ⟨⟨t', y, m⟩, l1, l2, h1, h2, _⟩ := run_bind hr
    obtain ⟨n, l3, l4, h3, h4, _⟩ := run_bind h2
    obtain ⟨ht2, cs, e1, hv⟩ := evd_TV h h1
    rw [ht] at ht2
    injection ht2 with ht2
    subst ht2
    obtain ⟨k, e2⟩ := num_TV h h3
    have hund := (hT.ty _ _ ht).und
    obtain ⟨hu, bytes, hin, _, _, _⟩ := hund
    have hsz : (P.info? e).map (·.size) = some t.sz := by
      obtain ⟨j, hi, hz⟩ := Option.map_eq_some_iff.1 hin
      injection hz with h5 h6
      injection h6 with h6 h7
      rw [hi]; exact congrArg some h6
    have fin : ∀ {tv : TV} {v : Value}, (Instr.indexAt S (a.eval x) (a.eval i)).run P w = .ok v w → TVR g (dom st) w (F.ok g st) tv v → OpOk P F o st [(kT d, some (.tv tv))] a w := by
      intro tv v hrun ht
      exact op_value h hd (hn d hd) (by simp [execOp, ho, hrun]) ht
    cases m with
    | own r =>
      simp only at h4
      obtain ⟨vv, l5, hb, h5, _⟩ := run_rd h4
      split at h5
      · rename_i e0 t0 xs
        obtain ⟨hir, h6⟩ := run_chk h5
        have := run_ret h6
        injection this with this
        subst this
        rw [Bool.and_eq_true] at hir
        have e9 := Ty.eq_of_beq hir.1
        subst e9
        have hir := hir.2
        simp only [inRange, Bool.and_eq_true, decide_eq_true_eq] at hir
        simp only [VR] at hv
        obtain ⟨hσ, hR⟩ := h.row hb
        obtain ⟨A, c, e3, hl, hC⟩ := Kd.R_reads hR
        have hA : ∃ b, A = some ⟨b, 0, none⟩ := by
          obtain ⟨_, inner, hown, _⟩ := hR
          rcases hown.2 with ⟨e4, _⟩ | ⟨g0, cap, cur, e4, _⟩
          · rw [e3] at e4
            injection e4 with _ e4 _
            omega
          · rw [e3] at e4
            injection e4 with e4 _ _
            exact ⟨g0, e4⟩
        obtain ⟨b, rfl⟩ := hA
        refine fin (v := .pointer (some ((⟨b, 0, none⟩ : Addr).add (n.toNat * t0.sz)))) ?_ ?_
        · rw [e1, e2, hv.1]
          show (Instr.indexAt S (g.ρ r) (.int k n)).run P w = _
          rw [e3]
          exact index_run hu hsz hir.1 hir.2 w
        · simp only [TVR]
          refine ⟨b, xs.length, c, e3, ?_, hv.2⟩
          have : offp (g.σ r) [] = 0 := by cases g.σ r <;> rfl
          rw [Addr.add_mid, hσ]
          rw [hσ] at this
          rw [this]
          congr 3
          omega
      · exact (run_fail h5).elim
    | no =>
      simp only at h4
      split at h4
      · rename_i xs hc
        obtain ⟨e3, e4⟩ := cast_some hc
        cases e4
        obtain ⟨hir, h5⟩ := run_chk h4
        have := run_ret h5
        injection this with this
        subst this
        simp only [inRange, Bool.and_eq_true, decide_eq_true_eq] at hir
        have hfk : Kd.FK (Ty.slice e t).kd w (F.ok g st) y cs := by simpa only [VR] using hv
        obtain ⟨A, c, e5, hl, hf⟩ := FK_slice hfk
        obtain ⟨ad, cs', e6, hf'⟩ := elem_ref hf hir.1 hir.2 t.zero
        subst e6
        refine fin (v := .pointer (some (ad.add (n.toNat * t.sz)))) ?_ ?_
        · rw [e1, e2, e5]
          exact index_run hu hsz hir.1 hir.2 w
        · simp only [TVR]
          exact ⟨_, cs', rfl, hf'⟩
      · exact (run_fail h4).elim
    | nil => exact (run_fail h4).elim
    | pair p q => exact (run_fail h4).elim
  · exact (run_fail hr).elim
end
end Go.Proofs.YtcmjbplnjjdcdaaGreat.Ref

namespace Go.Proofs.YtcmjbplnjjdcdaaGreat.Ref
open Go.RowKit Go.Proofs.YtcmjbplnjjdcdaaGreatW.PrintWords Go.Proofs.YtcmjbplnjjdcdaaGreatW.PrintLast

section
variable {P : Program} {T : Tab} {G : Sigs} {F : Fx} {g : Gh} {st : St} {a : Act} {w : World} {o : Oper} {d : Nat} {l : List Nat} {wr : Wr} {D : Nat → Bool} {ok : Nat → Prop}

theorem K_M_flat {t : Ty} {x : t.den} {cs : List Value} {base : Nat} {ok' : Nat → Prop} (hf : t.flat = true) (h : t.kd.K w x cs) : t.kd.M w base ok' x cs := M_flat hf (K_FK h)
theorem full_alive : ∀ {t : Ty} {x : t.den} {m : Mk} {y : t.den} {l : List Nat}, (full t x m).run st = some (y, l) → ∀ r ∈ idsT t m, Alive st (kR r)
  | .slice e t, x, .own r, y, l, hf, q, hq => by
    simp only [full] at hf
    obtain ⟨v, l', h1, h2, _⟩ := run_rd hf
    have : q = r := by simpa [idsT] using hq
    subst this
    exact ⟨v, h1⟩
  | .slice e t, x, .nil, y, l, hf, q, hq => by cases hq
  | .slice e t, x, .no, y, l, hf, q, hq => by cases hq
  | .slice e t, x, .pair _ _, y, l, hf, q, hq => by cases hq
  | .pair a b, x, m, y, l, hf, q, hq => by
    obtain ⟨⟨l1, h1⟩, ⟨l2, h2⟩⟩ := full_pair hf
    rcases List.mem_append.1 hq with hq | hq
    · exact full_alive h1 q hq
    · exact full_alive h2 q hq
  | .int _, x, m, y, l, hf, q, hq => by cases hq
  | .bool, x, m, y, l, hf, q, hq => by cases hq
  | .str, x, m, y, l, hf, q, hq => by cases hq
theorem op_skip {w' : World} {g' : Gh} (hd : o.dst = none) (hrun : (execOp a.eval o).run P w = .ok .skip w') (h : Rel F g' (wr ++ st) a w') : OpOk P F o st wr a w := by
  intro ops Kc Q _ hK
  unfold Oper.wp
  rw [hrun]
  show Kc (a.put o.dst undef) w'
  rw [hd]
  exact hK g' _ _ h
/-- A flat part of a value is laid in. -/
theorem setp_M {base : Nat} {ok okf : Nat → Prop} : ∀ {p : List Bool} {t : Ty} {x : t.den} {m : Mk} {t' : Ty} {z : t'.den} {n : Mk} {y : t.den} {m' : Mk} {c : List Value}, t'.flat = true → t.kd.M w base ok x c → setp t x m p t' z n = some (y, m') →
    ∃ c1 mid c2, c = c1 ++ mid ++ c2 ∧ c1.length = offp t p ∧ mid.length = t'.sz ∧ ∀ cs', Kd.FK t'.kd w okf z cs' → t.kd.M w base ok y (c1 ++ cs' ++ c2)
  | [], t, x, m, t', z, n, y, m', c, hf, hM, hs => by
    have hs2 : ∃ zz, Ty.cast t z = some zz ∧ zz = y := by
      cases t <;> (simp only [setp] at hs; split at hs <;> first | (cases hs; done) | (rename_i zz hz; injection hs with hs; injection hs with h1 h2; exact ⟨zz, hz, h1⟩))
    obtain ⟨zz, hz1, rfl⟩ := hs2
    obtain ⟨e7, e8⟩ := cast_some hz1
    subst e7
    cases e8
    refine ⟨[], c, [], by simp, by cases t' <;> rfl, by rw [← kd_sz]; exact t'.kd.K_len (t'.kd.K_of_M hM), fun cs' hc => ?_⟩
    rw [List.nil_append, List.append_nil]
    exact M_flat hf hc
  | false :: p, .pair a b, x, m, t', z, n, y, m', c, hf, hM, hs => by
    simp only [setp] at hs
    split at hs
    · rename_i y0 n0 h1
      injection hs with hs
      injection hs with e1 e2
      subst e1
      obtain ⟨ca, cb, e, ha, hb⟩ := hM
      obtain ⟨c1, mid, c2, f1, f2, f3, f4⟩ := setp_M (p := p) hf ha h1
      refine ⟨c1, mid, c2 ++ cb, by rw [e, f1]; simp, f2, f3, fun cs' hc => ⟨c1 ++ cs' ++ c2, cb, by simp, f4 cs' hc, hb⟩⟩
    · cases hs
  | true :: p, .pair a b, x, m, t', z, n, y, m', c, hf, hM, hs => by
    simp only [setp] at hs
    split at hs
    · rename_i y0 n0 h1
      injection hs with hs
      injection hs with e1 e2
      subst e1
      obtain ⟨ca, cb, e, ha, hb⟩ := hM
      obtain ⟨c1, mid, c2, f1, f2, f3, f4⟩ := setp_M (p := p) hf hb h1
      refine ⟨ca ++ c1, mid, c2, by rw [e, f1]; simp, ?_, f3, fun cs' hc => ⟨ca, c1 ++ cs' ++ c2, by simp, ha, f4 cs' hc⟩⟩
      rw [List.length_append, f2, a.kd.K_len (a.kd.K_of_M ha), kd_sz]
      rfl
    · cases hs
  | false :: p, .int _, x, m, t', z, n, y, m', c, hf, hM, hs => by cases hs
  | false :: p, .bool, x, m, t', z, n, y, m', c, hf, hM, hs => by cases hs
  | false :: p, .str, x, m, t', z, n, y, m', c, hf, hM, hs => by cases hs
  | false :: p, .slice _ _, x, m, t', z, n, y, m', c, hf, hM, hs => by cases hs
  | true :: p, .int _, x, m, t', z, n, y, m', c, hf, hM, hs => by cases hs
  | true :: p, .bool, x, m, t', z, n, y, m', c, hf, hM, hs => by cases hs
  | true :: p, .str, x, m, t', z, n, y, m', c, hf, hM, hs => by cases hs
  | true :: p, .slice _ _, x, m, t', z, n, y, m', c, hf, hM, hs => by cases hs
theorem op_store (hT : TabOk P T) (h : Rel F g st a w) {L : Nat} {x y : Operand} (ho : o.op = .store L x y) (hr : (opEff T G o).run st = some (.wr wr, l)) : OpOk P F o st wr a w := by
  unfold opEff at hr
  rw [ho] at hr
  simp only at hr
  cases hd : o.dst with
  | some d => rw [hd] at hr; exact (run_fail hr).elim
  | none =>
    rw [hd] at hr
    obtain ⟨u, l1, l2, h1, h2, _⟩ := run_bind hr
    have hu := ev_TV h h1
    split at h2
    · rename_i b p
      obtain ⟨vv, l3, hb, h3, _⟩ := run_rd h2
      split at h3
      · rename_i t0 x0 m0
        obtain ⟨⟨t', z, n⟩, l4, l5, h4, h5, _⟩ := run_bind h3
        obtain ⟨ht, cs', e1, hv'⟩ := evd_TV h h4
        simp only at h5
        split at h5
        · rename_i y' m' hs
          have := run_ret h5
          injection this with this
          subst this
          obtain ⟨hτ, cs, ty, hh, hv⟩ := h.box hb
          obtain ⟨c1, mid, c2, e2, hl, hm, hv2⟩ := setp_VR hs hv hv'
          simp only [TVR] at hu
          rw [hτ] at hu
          have hc : (valOf t' cs').cells.toList = cs' := VR_cells h hv'
          have hl' := VR_len hv'
          have hfit : offp t0 p + cs'.length ≤ cs.toArray.size := by
            rw [List.size_toArray, e2, List.length_append, List.length_append]; omega
          have hrun := run_store_run (P := P) (w := w) L (valOf t' cs') cs' hh hc (by rw [(hT.ty _ _ ht).size, hl']) hfit (VR_one h.isl hv')
          obtain ⟨cur', hc1, hc2, hc3⟩ := setCells_row cs' (offp t0 p) w cs.toArray hh hfit
          obtain ⟨s1, s2, s3, s4⟩ := setCells_same (g.β b) cs' (offp t0 p) w
          have hcur : cur' = (c1 ++ cs' ++ c2).toArray := by
            have : cur'.toList = c1 ++ cs' ++ c2 := by
              rw [hc3, e2, List.toList_toArray, ← hl]
              congr 1
              · congr 1
                rw [List.append_assoc, List.take_left]
              · rw [← List.drop_drop, List.append_assoc, List.drop_left, ← hm, List.drop_left]
            rw [← this, Array.toArray_toList]
          refine op_skip (g' := g) hd ?_ (h.setBox (w' := w.setCells (g.β b) (offp t0 p) cs') (cs := c1 ++ cs' ++ c2) (ty := ty) hb s1 s2 s3 s4 (fun k hk => setCells_far cs' _ k hk) (by rw [hc1, hcur]) hv2)
          have hrun2 : (Instr.storeAt L (a.eval x) (a.eval y)).run P w = .ok () (w.setCells (g.β b) (offp t0 p) cs') := by
            rw [hu.1, e1]; exact hrun
          simp [execOp, ho, hrun2]
        · exact (run_fail h5).elim
      · exact (run_fail h3).elim
    · rename_i r i p
      obtain ⟨vv, l3, hb, h3, _⟩ := run_rd h2
      split at h3
      · rename_i e0 t0 xs
        obtain ⟨⟨t', z, n⟩, l4, l5, h4, h5, _⟩ := run_bind h3
        obtain ⟨ht, cs', e1, hv'⟩ := evd_TV h h4
        dsimp only at h5
        obtain ⟨hc0, h6⟩ := run_chk h5
        obtain ⟨z', l6, l7, h7, h8, _⟩ := run_bind h6
        obtain ⟨hir, h9⟩ := run_chk h8
        split at h9
        · rename_i y' m' hs
          have := run_ret h9
          injection this with this
          subst this
          simp only [inRange, Bool.and_eq_true, decide_eq_true_eq] at hir
          simp only [Bool.and_eq_true, Bool.not_eq_true', Bool.or_eq_true] at hc0
          obtain ⟨⟨⟨ho1, ho2⟩, ho3⟩, ho4⟩ := hc0
          have hni : r ∉ idsT t' n := fun hc => by
            have : (idsT t' n).contains r = true := by simpa using hc
            rw [this] at ho3; cases ho3
          have hal := full_alive h7
          obtain ⟨hσ, hRS⟩ := h.rowS hb
          have hR := Kd.S_R hRS
          simp only [TVR] at hu
          obtain ⟨b, nn, cc, e3, e4, hdr⟩ := hu
          rw [hσ] at e4
          have hnx : nn = xs.length := by
            obtain ⟨A, c, e5, hl, hC⟩ := Kd.R_reads hR
            rw [e3] at e5
            injection e5 with e6 e7 e8
          subst hnx
          have hSb : g.S r b := hR.1 b (by rw [e3]; rfl)
          have hdis : ∀ k, g.S r k → ¬ ∃ q ∈ idsT t' n, g.S q k := fun k hk ⟨q, hq, hs⟩ => h.dRR q r (hal q hq) ⟨_, hb⟩ (fun e => hni (e ▸ hq)) k hs hk
          have hRw : Kd.S t0.kd e0 w 0 (fun k => (g.S r k ∨ ∃ q ∈ idsT t' n, g.S q k) ∧ ¬ ∃ q ∈ idsT t' n, g.S q k) (.slice (some ⟨b, 0, none⟩) xs.length cc) xs := by
            rw [← e3]
            exact Kd.S_mono hRS (fun k hk => ⟨.inl hk, hdis k hk⟩)
          obtain ⟨_, hlc, _⟩ := Kd.S_reads' hRw
          obtain ⟨oki, c, hcl, hM0, hcc', _, hoki, hH⟩ := Kd.S_elem hRw t0.zero i hir.1 hir.2
          have hK : t0.kd.K w (xs.getD i.toNat t0.zero) c := t0.kd.K_of_M hM0
          -- the new element's cells
          have hzM := full_M h h7 hv' ho1
          have hzF : VR g (dom st) w (fun _ => True) t' z' .no cs' := VR_no.2 (K_FK (t'.kd.K_of_M hzM))
          obtain ⟨c1, mid, c2, e6, hl, hm, hv2⟩ := setp_VR hs (VR_no.2 (K_FK hK) : VR g (dom st) w (fun _ => True) t0 (xs.getD i.toNat t0.zero) .no c) hzF
          have hl' := VR_len hv'
          have htk : c.take (offp t0 p) = c1 := by rw [e6, ← hl, List.append_assoc, List.take_left]
          have hdk : c.drop (offp t0 p + cs'.length) = c2 := by rw [e6, ← hl, ← List.drop_drop, List.append_assoc, List.drop_left, ← hm, List.drop_left]
          have hjl : offp t0 p + cs'.length ≤ t0.kd.sz := by
            rw [← hcl, e6, List.length_append, List.length_append]; omega
          have hM : t0.kd.M w 0 (fun k => oki k ∨ ∃ q ∈ idsT t' n, g.S q k) y' (c.take (offp t0 p) ++ cs' ++ c.drop (offp t0 p + cs'.length)) := by
            rcases ho4 with (ho4 | ho4) | ho4
            · rw [htk, hdk]
              have h10 := VR_len hv2
              exact M_flat ho4 (flat_VR ho4 hv2)
            · rw [htk, hdk]
              have hp : p = [] := by simpa using ho4
              subst hp
              have hs2 : ∃ zz, Ty.cast t0 z' = some zz ∧ zz = y' := by
                cases t0 <;> (simp only [setp] at hs; split at hs <;> first | (cases hs; done) | (rename_i zz hz; injection hs with hs; injection hs with h1 h2; exact ⟨zz, hz, h1⟩))
              obtain ⟨zz, hz1, rfl⟩ := hs2
              obtain ⟨e7, e8⟩ := cast_some hz1
              subst e7
              cases e8
              have hz0 : offp t' [] = 0 := by cases t' <;> rfl
              have h11 : c1 = [] := List.eq_nil_of_length_eq_zero (by rw [hl]; exact hz0)
              have h12 : c2 = [] := by
                have := congrArg List.length e6
                rw [hcl, kd_sz, h11, List.nil_append, List.length_append, hm, hl'] at this
                exact List.eq_nil_of_length_eq_zero (by omega)
              rw [h11, h12, List.nil_append, List.append_nil]
              exact t'.kd.M_mono (fun k hk => .inr hk) hzM
            · obtain ⟨d1, md, d2, f1, f2, f3, f4⟩ := setp_M (w := w) (base := 0) (ok := oki) ho4 hM0 hs
              have g1 : c.take (offp t0 p) = d1 := by rw [f1, ← f2, List.append_assoc, List.take_left]
              have g2 : c.drop (offp t0 p + cs'.length) = d2 := by rw [f1, ← f2, ← List.drop_drop, List.append_assoc, List.drop_left, hl', ← f3, List.drop_left]
              rw [g1, g2]
              exact t0.kd.M_mono (fun k hk => .inl hk) (f4 cs' (VR_no.1 hzF))
          obtain ⟨hrow, hgr⟩ := Kd.S_seg (okg := fun k => ∃ q ∈ idsT t' n, g.S q k) hH hir.1 hir.2 hjl hM (fun k hk => hk) (fun k hk => ⟨.inr hk, fun e => by
            subst e
            exact hdis _ hSb hk⟩)
          rw [kd_sz] at hrow hgr
          obtain ⟨g', hg'⟩ := h.setRow (w' := w.setCells b (i.toNat * t0.sz + offp t0 p) cs') (ys := xs.set i.toNat y') hal hb hni hgr.os hgr.tape hgr.output (setCells_same b cs' _ w).2.2.2
            (fun k hk => setCells_far cs' _ k (fun e => hk (e ▸ hSb))) (by rw [e3]; exact hrow)
          refine op_skip (g' := g') hd ?_ hg'
          have hblk : ∃ cur ty, w.heap[b]? = some (.cells cur ty (0, 0)) ∧ i.toNat * t0.sz + offp t0 p + cs'.length ≤ cur.size := by
            obtain ⟨_, inner, hown, _⟩ := hR
            rcases hown.2 with ⟨e9, _⟩ | ⟨g0, cap, cur, e9, _, hh, hnc, hcm, hcs, _⟩
            · rw [e3] at e9; cases e9
            · rw [e3] at e9
              injection e9 with e10 _ e11
              injection e10 with e10
              injection e10 with e10
              subst e10; subst e11
              refine ⟨cur, _, hh, ?_⟩
              rw [kd_sz] at hcs hjl
              rw [hcs]
              have h13 : i.toNat + 1 ≤ cc := by omega
              have h14 : (i.toNat + 1) * t0.sz ≤ cc * t0.sz := Nat.mul_le_mul_right _ h13
              rw [Nat.add_mul, Nat.one_mul] at h14
              omega
          obtain ⟨cur, ty, hh, hfit⟩ := hblk
          have hrun := run_store_run (P := P) (w := w) L (valOf t' cs') cs' hh (VR_cells h hv') (by rw [(hT.ty _ _ ht).size, hl']) hfit (VR_one h.isl hv')
          have hrun2 : (Instr.storeAt L (a.eval x) (a.eval y)).run P w = .ok () (w.setCells b (i.toNat * t0.sz + offp t0 p) cs') := by
            rw [e4, e1]; exact hrun
          simp [execOp, ho, hrun2]
        · exact (run_fail h9).elim
      · exact (run_fail h3).elim
    · exact (run_fail h2).elim
end
end Go.Proofs.YtcmjbplnjjdcdaaGreat.Ref

namespace Go.Proofs.YtcmjbplnjjdcdaaGreat.Ref
open Go.RowKit Go.Proofs.YtcmjbplnjjdcdaaGreatW.PrintWords Go.Proofs.YtcmjbplnjjdcdaaGreatW.PrintLast

section
variable {P : Program} {T : Tab} {G : Sigs} {F : Fx} {g : Gh} {st : St} {a : Act} {w : World} {o : Oper} {d : Nat} {l : List Nat} {wr : Wr} {D : Nat → Bool} {ok : Nat → Prop}

theorem op_index (hT : TabOk P T) (h : Rel F g st a w) {S : Nat} {x i : Operand} (ho : o.op = .index S x i) (hn : ∀ d, o.dst = some d → F.slot d) (hr : (opEff T G o).run st = some (.wr wr, l)) : OpOk P F o st wr a w := by
  unfold opEff at hr
  rw [ho] at hr
  simp only at hr
  split at hr
  · rename_i d hd ht
    obtain ⟨u, l1, l2, h1, h2, _⟩ := run_bind hr
    have hu := ev_TV h h1
    split at h2
    · rename_i s m
      obtain ⟨n, l3, l4, h3, h4, _⟩ := run_bind h2
      obtain ⟨hir, h5⟩ := run_chk h4
      have := run_ret h5
      injection this with this
      subst this
      simp only [inRange, Bool.and_eq_true, decide_eq_true_eq] at hir
      have e1 := TV_str hu
      obtain ⟨k, e2⟩ := num_TV h h3
      have hund : P.underlying S = some .string := (hT.ty _ _ ht).und
      have hlt : n.toNat < s.size := by omega
      refine op_value h hd (hn d hd) (v := .int .u8 (bt s n)) ?_ (int_TV _ _ _)
      have hb : bt s n = ((s[n.toNat]'hlt).toNat : Int) := by unfold bt; rw [dif_pos hlt]
      have hs : s[n.toNat]? = some (s[n.toNat]'hlt) := by simp [hlt]
      simp [execOp, ho, e1, e2, Instr.index, asIntOf, run_underlying hund, hir.1, hs, hb]
    · exact (run_fail h2).elim
  · exact (run_fail hr).elim

theorem TVRs_get : ∀ {ts : List TV} {vs : List Value} {n : Nat} {t : TV}, TVRs g D w ok ts vs → ts[n]? = some t → ∃ v, vs[n]? = some v ∧ TVR g D w ok t v
  | [], vs, n, t, _, h => by simp at h
  | t0 :: ts, vs, 0, t, hr, h => by
    simp only [TVRs] at hr
    obtain ⟨v, vs', rfl, h1, _⟩ := hr
    simp at h
    subst h
    exact ⟨v, rfl, h1⟩
  | t0 :: ts, vs, n + 1, t, hr, h => by
    simp only [TVRs] at hr
    obtain ⟨v, vs', rfl, _, h2⟩ := hr
    simp at h
    obtain ⟨v', h3, h4⟩ := TVRs_get h2 h
    exact ⟨v', by simpa using h3, h4⟩
theorem subT_getp : ∀ {p : List Bool} {t : Ty} {x : t.den} {m : Mk} {t' : Ty} {x' : t'.den} {m' : Mk}, getp t x m p = some ⟨t', x', m'⟩ → subT t p = some t'
  | [], t, x, m, t', x', m', h => by
    have hp' : (⟨t, x, m⟩ : (t' : Ty) × t'.den × Mk) = ⟨t', x', m'⟩ := by cases t <;> exact Option.some.inj h
    cases hp'
    cases t <;> rfl
  | false :: p, .pair a b, x, m, t', x', m', h => subT_getp (p := p) (t := a) h
  | true :: p, .pair a b, x, m, t', x', m', h => subT_getp (p := p) (t := b) h
  | false :: p, .int _, x, m, t', y, m', h => by cases h
  | false :: p, .bool, x, m, t', y, m', h => by cases h
  | false :: p, .str, x, m, t', y, m', h => by cases h
  | false :: p, .slice _ _, x, m, t', y, m', h => by cases h
  | true :: p, .int _, x, m, t', y, m', h => by cases h
  | true :: p, .bool, x, m, t', y, m', h => by cases h
  | true :: p, .str, x, m, t', y, m', h => by cases h
  | true :: p, .slice _ _, x, m, t', y, m', h => by cases h
theorem isAgg_agg {n : Nat} {b : Bool} (h : (P.underlying n).map aggU = some b) (w : World) : (isAgg n).run P w = .ok b w := by
  obtain ⟨u, hu, rfl⟩ := Option.map_eq_some_iff.1 h
  cases u <;> simp [isAgg, run_underlying hu, aggU]
theorem op_fieldv (hT : TabOk P T) (h : Rel F g st a w) {S f : Nat} {x : Operand} (ho : o.op = .field S x f) (hn : ∀ d, o.dst = some d → F.slot d) (hr : (opEff T G o).run st = some (.wr wr, l)) : OpOk P F o st wr a w := by
  unfold opEff at hr
  rw [ho] at hr
  simp only at hr
  split at hr
  · rename_i d p hd hp
    obtain ⟨⟨t, y, m⟩, l1, l2, h1, h2, _⟩ := run_bind hr
    obtain ⟨ht, cs, hcs, hv⟩ := evd_TV h h1
    simp only at h2
    split at h2
    · rename_i t' z m' hg
      have := run_ret h2
      injection this with this
      subst this
      obtain ⟨c1, mid, c2, rfl, hl, hv'⟩ := getp_VR hg hv
      have hlm := VR_len hv'
      obtain ⟨fs, fd, s', e1, e2, e3, e4, e5, e6⟩ := hT.fp S f p t hp ht
      rw [subT_getp hg] at e4
      injection e4 with e4
      subst e4
      obtain ⟨i, hi, hz⟩ := Option.map_eq_some_iff.1 e5
      have hs : (sizeOf fd.type).run P w = .ok t'.sz w := by simp [sizeOf, typeInfo, hi, hz]
      have hpair : ∃ a b, t = .pair a b := by
        have hu := (hT.ty S t ht).und
        cases t with
        | pair a b => exact ⟨a, b, rfl⟩
        | int k => have hu : P.underlying S = _ := hu; rw [e1] at hu; cases hu
        | bool => have hu : P.underlying S = _ := hu; rw [e1] at hu; cases hu
        | str => have hu : P.underlying S = _ := hu; rw [e1] at hu; cases hu
        | slice e t => have hu : P.underlying S = _ := hu.1; rw [e1] at hu; cases hu
      obtain ⟨ta, tb, rfl⟩ := hpair
      refine op_value h hd (hn d hd) (v := valOf t' mid) ?_ (by simp only [TVR]; exact ⟨mid, rfl, hv'⟩)
      have hrun : (part fd.type (c1 ++ mid ++ c2).toArray fd.offset).run P w = .ok (valOf t' mid) w := by
        unfold part
        simp only [Sem.run_bind, isAgg_agg e6, Result.andThen_ok]
        rw [e3, ← hl]
        cases hpp : t'.isPair with
        | true =>
          simp only [if_true, Sem.run_bind, hs, Result.andThen_ok, Sem.run_pure]
          have : (c1 ++ mid ++ c2).toArray.extract c1.length (c1.length + t'.sz) = mid.toArray := by
            rw [← hlm]
            apply Array.ext'
            simp
          rw [this]
          cases t' <;> first | rfl | cases hpp
        | false =>
          have hl1 : mid.length = 1 := by cases t' <;> first | exact hlm | cases hpp
          match mid, hl1 with
          | [u], _ =>
            have : (c1 ++ [u] ++ c2).toArray[c1.length]? = some u := by simp
            simp only [Bool.false_eq_true, if_false, this]
            cases t' <;> first | rfl | cases hpp
      have hcs' : a.eval x = .agg (c1 ++ mid ++ c2).toArray := hcs
      rw [List.append_assoc] at hrun hcs'
      simp [execOp, ho, hcs', Instr.field, run_underlying e1, e2, asAgg, hrun]
    · exact (run_fail h2).elim
  · exact (run_fail hr).elim
theorem op_extract (h : Rel F g st a w) {x : Operand} {n : Nat} (ho : o.op = .extract x n) (hn : ∀ d, o.dst = some d → F.slot d) (hr : (opEff T G o).run st = some (.wr wr, l)) : OpOk P F o st wr a w := by
  unfold opEff at hr
  rw [ho] at hr
  simp only at hr
  cases hd : o.dst with
  | none => rw [hd] at hr; exact (run_fail hr).elim
  | some d =>
    rw [hd] at hr
    obtain ⟨u, l1, l2, h1, h2, _⟩ := run_bind hr
    have hu := ev_TV h h1
    split at h2
    · rename_i tl
      split at h2
      · rename_i v hv
        have := run_ret h2
        injection this with this
        subst this
        simp only [TVR] at hu
        obtain ⟨vs, e1, hvs⟩ := hu
        obtain ⟨v', h3, h4⟩ := TVRs_get hvs hv
        refine op_value h hd (hn d hd) (v := v') ?_ h4
        simp [execOp, ho, e1, Instr.extract, h3]
      · exact (run_fail h2).elim
    · exact (run_fail h2).elim

theorem op_len (hT : TabOk P T) (h : Rel F g st a w) {S : Nat} {x : Operand} {c : Call} (ho : o.op = .call c) (hc1 : c.callee = .builtin .len) (hc2 : c.args.toList = [x]) (hc3 : c.argTypes.toList = [S]) (hn : ∀ d, o.dst = some d → F.slot d) (hr : (lenEff T o x S).run st = some (.wr wr, l)) : OpOk P F o st wr a w := by
  unfold lenEff at hr
  have hc2' : c.args = #[x] := by rw [← Array.toArray_toList (xs := c.args), hc2]
  have hc3' : c.argTypes = #[S] := by rw [← Array.toArray_toList (xs := c.argTypes), hc3]
  cases hd : o.dst with
  | none => rw [hd] at hr; exact (run_fail hr).elim
  | some d =>
    rw [hd] at hr
    obtain ⟨⟨t, y, m⟩, l1, l2, h1, h2, _⟩ := run_bind hr
    obtain ⟨ht, cs, e1, hv⟩ := evd_TV h h1
    have fin : ∀ {n : Nat}, (Builtin.len_ #[S] o.type #[a.eval x]).run P w = .ok (.int .i64 (n : Int)) w → OpOk P F o st [(kT d, some (.tv (.v (.int .i64) (n : Int) .no)))] a w := by
      intro n hrun
      refine op_value h hd (hn d hd) (v := .int .i64 n) ?_ (int_TV _ _ _)
      simp [execOp, ho, resolve, hc1, hc2', hc3', invoke, builtin, hrun]
    cases t with
    | str =>
      have := run_ret h2
      injection this with this
      subst this
      have hund : P.underlying S = some .string := (hT.ty _ _ ht).und
      have e2 : a.eval x = .string y := by
        rw [e1]
        simp only [VR] at hv
        have : cs = [.string y] := Foot.now hv
        rw [this]; rfl
      refine fin ?_
      simp [Builtin.len_, run_underlying hund, e2, goInt]
    | slice e t =>
      obtain ⟨z, l3, l4, h3, h4, _⟩ := run_bind h2
      have := run_ret h4
      injection this with this
      subst this
      have hund := (hT.ty _ _ ht).und
      obtain ⟨A, c', e2, hl, _⟩ := FK_slice (full_FK h h3 hv)
      refine fin ?_
      have e3 : a.eval x = .slice A z.length c' := by rw [e1, e2]; rfl
      simp [Builtin.len_, run_underlying hund.1, e3, goInt]
    | int k => exact (run_fail h2).elim
    | bool => exact (run_fail h2).elim
    | pair p q => exact (run_fail h2).elim

theorem op_cap (hT : TabOk P T) (h : Rel F g st a w) {S : Nat} {x : Operand} {c : Call} (ho : o.op = .call c) (hc1 : c.callee = .builtin .cap) (hc2 : c.args.toList = [x]) (hc3 : c.argTypes.toList = [S]) (hn : ∀ d, o.dst = some d → F.slot d) (hr : (capEff T o x S).run st = some (.wr wr, l)) : OpOk P F o st wr a w := by
  unfold capEff at hr
  have hc2' : c.args = #[x] := by rw [← Array.toArray_toList (xs := c.args), hc2]
  have hc3' : c.argTypes = #[S] := by rw [← Array.toArray_toList (xs := c.argTypes), hc3]
  cases hd : o.dst with
  | none => rw [hd] at hr; exact (run_fail hr).elim
  | some d =>
    rw [hd] at hr
    obtain ⟨⟨t, y, m⟩, l1, l2, h1, h2, _⟩ := run_bind hr
    obtain ⟨ht, cs, e1, hv⟩ := evd_TV h h1
    split at h2
    · rename_i e t' y' he
      cases he
      have := run_ret h2
      injection this with this
      subst this
      have hund := (hT.ty _ _ ht).und
      simp only [VR] at hv
      have e3 : a.eval x = .slice none 0 0 := by rw [e1, hv]; rfl
      refine op_value h hd (hn d hd) (v := .int .i64 0) ?_ (int_TV _ _ _)
      have hrun : (Builtin.cap_ #[S] o.type #[a.eval x]).run P w = .ok (.int .i64 0) w := by simp [Builtin.cap_, run_underlying hund.1, e3, goInt]
      simp [execOp, ho, resolve, hc1, hc2', hc3', invoke, builtin, hrun]
    · exact (run_fail h2).elim

theorem fold_set (off : Nat) (v : List Value) (cs : Array Value) (h : off + v.length ≤ cs.size) :
    (v.zipIdx.foldl (fun cs (x : Value × Nat) => cs.setIfInBounds (off + x.2) x.1) cs) = (cs.toList.take off ++ v ++ cs.toList.drop (off + v.length)).toArray := by
  obtain ⟨h1, h2⟩ := Go.Great.foldl_set off v 0 cs
  apply Array.ext_getElem?
  intro k
  rw [h2 k]
  simp only [Nat.add_zero, List.getElem?_toArray]
  have hlen : (cs.toList.take off).length = off := by rw [List.length_take, Array.length_toList]; omega
  by_cases hk : k < off
  · rw [if_neg (by omega), List.append_assoc, List.getElem?_append_left (by omega), List.getElem?_take, if_pos hk]
    simp
  · by_cases hk2 : k < off + v.length
    · rw [if_pos ⟨by omega, hk2, by omega⟩, List.append_assoc, List.getElem?_append_right (by omega), List.getElem?_append_left (by omega), hlen]
    · rw [if_neg (by omega), List.getElem?_append_right (by rw [List.length_append, hlen]; omega), List.getElem?_drop, List.length_append, hlen]
      simp only [Array.getElem?_toList]
      congr 1
      omega
theorem subT_of_setp : ∀ {p : List Bool} {t : Ty} {x : t.den} {m : Mk} {t' : Ty} {x' : t'.den} {m' : Mk} {y : t.den × Mk}, setp t x m p t' x' m' = some y → subT t p = some t'
  | [], t, x, m, t', x', m', y, h => by
    have : ∃ z, Ty.cast t x' = some z := by
      cases t <;> (simp only [setp] at h; split at h <;> first | (cases h; done) | (rename_i z hz; exact ⟨z, hz⟩))
    obtain ⟨z, hz⟩ := this
    obtain ⟨e, _⟩ := cast_some hz
    subst e
    cases t' <;> rfl
  | false :: p, .pair a b, x, m, t', x', m', y, h => by
    simp only [setp] at h
    split at h
    · rename_i hs; exact subT_of_setp (p := p) hs
    · cases h
  | true :: p, .pair a b, x, m, t', x', m', y, h => by
    simp only [setp] at h
    split at h
    · rename_i hs; exact subT_of_setp (p := p) hs
    · cases h
  | false :: p, .int _, x, m, t', _, m', y, h => by cases h
  | false :: p, .bool, x, m, t', _, m', y, h => by cases h
  | false :: p, .str, x, m, t', _, m', y, h => by cases h
  | false :: p, .slice _ _, x, m, t', _, m', y, h => by cases h
  | true :: p, .int _, x, m, t', _, m', y, h => by cases h
  | true :: p, .bool, x, m, t', _, m', y, h => by cases h
  | true :: p, .str, x, m, t', _, m', y, h => by cases h
  | true :: p, .slice _ _, x, m, t', _, m', y, h => by cases h
theorem subT_of_getp : ∀ {p : List Bool} {t : Ty} {x : t.den} {m : Mk} {t' : Ty} {x' : t'.den} {m' : Mk}, getp t x m p = some ⟨t', x', m'⟩ → subT t p = some t'
  | [], t, x, m, t', x', m', h => by
    have : (⟨t, x, m⟩ : (t' : Ty) × t'.den × Mk) = ⟨t', x', m'⟩ := by cases t <;> exact Option.some.inj h
    cases this
    cases t <;> rfl
  | false :: p, .pair a b, x, m, t', x', m', h => subT_of_getp (p := p) h
  | true :: p, .pair a b, x, m, t', x', m', h => subT_of_getp (p := p) h
  | false :: p, .int _, x, m, t', _, m', h => by cases h
  | false :: p, .bool, x, m, t', _, m', h => by cases h
  | false :: p, .str, x, m, t', _, m', h => by cases h
  | false :: p, .slice _ _, x, m, t', _, m', h => by cases h
  | true :: p, .int _, x, m, t', _, m', h => by cases h
  | true :: p, .bool, x, m, t', _, m', h => by cases h
  | true :: p, .str, x, m, t', _, m', h => by cases h
  | true :: p, .slice _ _, x, m, t', _, m', h => by cases h

/-- The table's fields, as the program has them. -/
def placesOf (P : Program) (S i : Nat) : Option (Nat × Nat) := match P.underlying S with
  | some (.struct fs) => (fs[i]?).bind fun f => (P.info? f.type).map fun x => (f.offset, x.size)
  | _ => none
theorem place_of {S i : Nat} {t t' : Ty} {p : List Bool} (hf : FpF P S i t p) (hs : subT t p = some t') : placesOf P S i = some (offp t p, t'.sz) := by
  obtain ⟨fs, fd, s, h1, h2, h3, h4, h5, _⟩ := hf
  rw [hs] at h4
  injection h4 with h4
  subst h4
  obtain ⟨j, hj, hz⟩ := Option.map_eq_some_iff.1 h5
  simp [placesOf, h1, h2, hj, hz, h3]
theorem fill_run (hT : TabOk P T) (h : Rel F g st a w) {S : Nat} {t : Ty} (hS : T.ty S = some t) : ∀ {parts : List (Nat × Operand)} {x x' : t.den} {m m' : Mk} {l : List Nat} {cs : List Value}, (fillP T S t parts x m).run st = some ((x', m'), l) → VR g (dom st) w (F.ok g st) t x m cs →
    ∃ cs', Instr.fill (placesOf P S) cs.toArray (parts.map fun (i, x) => (i, a.eval x)) = some cs'.toArray ∧ VR g (dom st) w (F.ok g st) t x' m' cs'
  | [], x, x', m, m', l, cs, hr, hv => by
    have := run_ret hr
    cases this
    exact ⟨cs, rfl, hv⟩
  | (i, op) :: r, x, x', m, m', l, cs, hr, hv => by
    simp only [fillP] at hr
    split at hr
    · rename_i p hp
      have hfp := hT.fp S i p t hp hS
      obtain ⟨u, l1, l2, h1, h2, _⟩ := run_bind hr
      have hu := ev_TV h h1
      split at h2
      · rename_i t' y n
        split at h2
        · rename_i x2 m2 hs
          simp only [TVR] at hu
          obtain ⟨cs', e1, hv'⟩ := hu
          obtain ⟨c1, mid, c2, e2, hl, hm, hv2⟩ := setp_VR hs hv hv'
          obtain ⟨cs2, h3, h4⟩ := fill_run hT h hS h2 hv2
          refine ⟨cs2, ?_, h4⟩
          have hc := VR_cells h hv'
          have hsz : (valOf t' cs').cells.size = t'.sz := by
            have := congrArg List.length hc
            rw [Array.length_toList] at this
            rw [this, VR_len hv']
          simp only [List.map_cons, Instr.fill, e1, place_of hfp (subT_of_setp hs), hsz]
          have hle : offp t p + t'.sz ≤ cs.toArray.size := by
            rw [List.size_toArray, e2, List.length_append, List.length_append, hm, hl, VR_len hv']; omega
          rw [if_neg (by simp; simpa using hle)]
          rw [← h3]
          congr 1
          rw [← Array.foldl_toList, Array.toList_zipIdx, hc]
          rw [fold_set _ _ _ (by rw [VR_len hv']; exact hle)]
          congr 1
          rw [e2, List.toList_toArray, ← hl, ← hm]
          congr 1
          · congr 1
            rw [List.append_assoc, List.take_left]
          · rw [← List.drop_drop, List.append_assoc, List.drop_left, List.drop_left]
        · exact (run_fail h2).elim
      · split at h2
        · rename_i e0 t0 x0 hg
          obtain ⟨cs2, h3, h4⟩ := fill_run hT h hS h2 hv
          refine ⟨cs2, ?_, h4⟩
          obtain ⟨c1, mid, c2, e2, hl, hv2⟩ := getp_VR hg hv
          simp only [TVR] at hu
          simp only [VR] at hv2
          have hsz : (Value.slice none 0 0).cells.size = 1 := rfl
          simp only [List.map_cons, Instr.fill, hu, place_of hfp (subT_of_getp hg)]
          have hle : offp t p + 1 ≤ cs.toArray.size := by
            rw [List.size_toArray, e2, List.length_append, List.length_append, hv2, hl]
            simp only [List.length_cons, List.length_nil]; omega
          have hone : (Ty.slice e0 t0).sz = 1 := rfl
          rw [hone, if_neg (by simp [hsz]; simpa using hle)]
          rw [← h3]
          congr 1
          rw [← Array.foldl_toList, Array.toList_zipIdx]
          have : (Value.slice none 0 0).cells.toList = [.slice none 0 0] := rfl
          rw [this, fold_set _ _ _ hle]
          congr 1
          rw [e2, List.toList_toArray, ← hl, hv2]
          congr 1
          · congr 1
            rw [List.append_assoc, List.take_left]
          · rw [← List.drop_drop, List.append_assoc, List.drop_left]; rfl
        · exact (run_fail h2).elim
      · exact (run_fail h2).elim
    · exact (run_fail hr).elim
theorem places_run (hT : TabOk P T) {S : Nat} {p q : Ty} (hS : T.ty S = some (.pair p q)) (w : World) : ∃ fs places, P.underlying S = some (.struct fs) ∧
    (fs.mapM fun f => do pure (f.offset, ← sizeOf f.type) : Sem (Array (Nat × Nat))).run P w = .ok places w ∧ ∀ i, places[i]? = placesOf P S i := by
  obtain ⟨fs, hu⟩ := (hT.ty _ _ hS).und
  have hpl := hT.pl S p q hS fs hu
  have key : ∀ (l : List Field), (∀ fd ∈ l, ∃ n, (P.info? fd.type).map (·.size) = some n) → ∃ pl : List (Nat × Nat), (l.mapM fun f => do pure (f.offset, ← sizeOf f.type) : Sem (List (Nat × Nat))).run P w = .ok pl w ∧ ∀ i : Nat, pl[i]? = (l[i]?).bind fun f => (P.info? f.type).map fun x => (f.offset, x.size) := by
    intro l
    induction l with
    | nil => intro _; exact ⟨[], by simp, fun i => by simp⟩
    | cons f l ih =>
      intro hl
      obtain ⟨pl, h1, h2⟩ := ih (fun fd hfd => hl fd (List.mem_cons_of_mem _ hfd))
      obtain ⟨n, hn⟩ := hl f List.mem_cons_self
      obtain ⟨j, hj, hz⟩ := Option.map_eq_some_iff.1 hn
      refine ⟨(f.offset, n) :: pl, ?_, fun i => ?_⟩
      · simp [List.mapM_cons, sizeOf, typeInfo, hj, hz]
        simp [sizeOf, typeInfo] at h1
        rw [h1]
        rfl
      · cases i with
        | zero => simp [hj, hz]
        | succ i => simpa using h2 i
  obtain ⟨pl, h1, h2⟩ := key fs.toList hpl
  refine ⟨fs, pl.toArray, hu, ?_, fun i => ?_⟩
  · rw [Array.mapM_eq_mapM_toList, Sem.run_map, h1]
    rfl
  · rw [List.getElem?_toArray, h2 i]
    simp [placesOf, hu]
theorem op_build (hT : TabOk P T) (h : Rel F g st a w) {S : Nat} {parts : Array (Nat × Operand)} (ho : o.op = .build S parts) (hn : ∀ d, o.dst = some d → F.slot d) (hr : (opEff T G o).run st = some (.wr wr, l)) : OpOk P F o st wr a w := by
  unfold opEff at hr
  rw [ho] at hr
  simp only at hr
  split at hr
  · rename_i d p q hd hS
    obtain ⟨⟨x, m⟩, l1, l2, h1, h2, _⟩ := run_bind hr
    have := run_ret h2
    injection this with this
    subst this
    obtain ⟨cs', h3, h4⟩ := fill_run hT h hS h1 (zc_VR (.pair p q))
    obtain ⟨fs, places, hu, hpr, hpl⟩ := places_run hT hS w
    refine op_value h hd (hn d hd) (v := .agg cs'.toArray) ?_ (by simp only [TVR]; exact ⟨cs', rfl, h4⟩)
    have hz : (zeroValue S).run P w = .ok (valOf (.pair p q) (zc (.pair p q))) w := zero_run hT hS w
    have hfn : (fun x => places[x]?) = placesOf P S := funext hpl
    have hmap : (parts.map fun (x : Nat × Operand) => (x.1, a.eval x.2)).toList = parts.toList.map fun (x : Nat × Operand) => (x.1, a.eval x.2) := by simp
    have h3' : Instr.fill (fun x => places[x]?) (zc (.pair p q)).toArray (parts.map fun (x : Nat × Operand) => (x.1, a.eval x.2)).toList = some cs'.toArray := by
      rw [hfn, hmap]; exact h3
    have hzc : (valOf (.pair p q) (zc (.pair p q))).cells = (zc (.pair p q)).toArray := valOf_zc _
    have hrun : (Instr.build S (parts.map fun (x : Nat × Operand) => (x.1, a.eval x.2))).run P w = .ok (.agg cs'.toArray) w := by
      unfold Instr.build
      simp only [Sem.run_bind, hz, Result.andThen_ok, run_underlying hu]
      rw [hpr]
      simp only [Result.andThen_ok, hzc, h3', Sem.run_pure]
    unfold execOp
    simp only [ho, Sem.run_bind]
    have : (parts.map fun (x : Nat × Operand) => match x with | (i, x) => (i, a.eval x)) = parts.map fun (x : Nat × Operand) => (x.1, a.eval x.2) := rfl
    rw [this, hrun]
    rfl
  · exact (run_fail hr).elim

theorem Reps_nil {α : Type} (R : α → List Value → Prop) (s : Nat) : Reps R s [] [] := ⟨by simp, fun j p hj => by simp at hj⟩
theorem Reps_cons {α : Type} {R : α → List Value → Prop} {s : Nat} {x : α} {xs : List α} {c cs : List Value} (hx : R x c) (hc : c.length = s) (h : Reps R s xs cs) : Reps R s (x :: xs) (c ++ cs) := by
  refine ⟨by rw [List.length_append, hc, h.1, List.length_cons, Nat.add_mul, Nat.one_mul]; omega, fun j p hj => ?_⟩
  cases j with
  | zero =>
    simp at hj
    subst hj
    rw [Nat.zero_mul, List.drop_zero, ← hc, List.take_left]
    exact hx
  | succ j =>
    simp at hj
    have := h.2 j p hj
    have e : (j + 1) * s = c.length + j * s := by rw [Nat.add_mul, Nat.one_mul, hc]; omega
    rw [e, ← List.drop_drop, List.drop_left]
    exact this
theorem nodup_app {l m : List Nat} (h : nodup (l ++ m) = true) : ∀ r ∈ l, r ∉ m := by
  induction l with
  | nil => intro r hr; cases hr
  | cons x l ih =>
    simp only [List.cons_append, nodup, Bool.and_eq_true, Bool.not_eq_true'] at h
    intro r hr hm
    rcases List.mem_cons.1 hr with rfl | hr
    · have : (l ++ m).contains r = true := by simpa using Or.inr hm
      rw [this] at h; cases h.1
    · exact ih h.2 r hr hm
theorem nodup_right : ∀ {l m : List Nat}, nodup (l ++ m) = true → nodup m = true
  | [], m, h => h
  | x :: l, m, h => by
    simp only [List.cons_append, nodup, Bool.and_eq_true] at h
    exact nodup_right h.2
/-- Which blocks the elements lead to, one by one. -/
def okCons (p : Nat → Prop) (okj : Nat → Nat → Prop) : Nat → Nat → Prop
  | 0, k => p k
  | j + 1, k => okj j k
theorem elems_run (hT : TabOk P T) (h : Rel F g st a w) {E : Nat} {t : Ty} : ∀ {parts : List (Nat × Operand)} {n : Nat} {xs : List t.den} {ids l : List Nat} {own : Bool}, (elemsP T E t n parts).run st = some ((xs, ids, own), l) →
    ∃ vs : List Value, (parts.map fun (x : Nat × Operand) => (x.1, a.eval x.2)) = (vs.zipIdx n).map (fun x => (x.2, x.1)) ∧ (∀ v ∈ vs, v.cells.size = t.sz) ∧ xs.length = parts.length ∧ vs.length = parts.length ∧
      (∀ r ∈ ids, Alive st (kR r)) ∧ (own = true → Reps (t.kd.M w 0 (fun k => ∃ r ∈ ids, g.S r k)) t.sz xs (vs.flatMap fun v => v.cells.toList)) ∧
      Reps (Kd.FK t.kd w (fun k => F.ok g st k ∨ ∃ r ∈ ids, g.S r k)) t.sz xs (vs.flatMap fun v => v.cells.toList) ∧
      ∃ okj : Nat → Nat → Prop, (∀ j k, okj j k → ∃ r ∈ ids, g.S r k) ∧ (nodup ids = true → ∀ i j k, okj i k → okj j k → i = j) ∧ (own = true → ∀ j x, xs[j]? = some x → t.kd.M w 0 (okj j) x (((vs.flatMap fun v => v.cells.toList).drop (j * t.sz)).take t.sz))
  | [], n, xs, ids, l, own, hr => by
    have := run_ret hr
    cases this
    exact ⟨[], rfl, (fun v hv => by cases hv), rfl, rfl, (fun r hr => by cases hr), fun _ => Reps_nil _ _, Reps_nil _ _, fun _ _ => False, fun _ _ hk => hk.elim, fun _ _ _ _ hk => hk.elim, fun _ j x hj => by simp at hj⟩
  | (i, op) :: r, n, xs, ids, l, own, hr => by
    obtain ⟨hi, hr⟩ := run_chk hr
    have hi := Nat.eq_of_beq_eq_true hi
    subst hi
    obtain ⟨⟨t', y, m⟩, l1, l2, h1, h2, _⟩ := run_bind hr
    dsimp only at h2
    obtain ⟨z, l3, l4, h4, h5, _⟩ := run_bind h2
    split at h5
    · rename_i z' hz
      obtain ⟨⟨xs', ids', own'⟩, l5, l6, h6, h7, _⟩ := run_bind h5
      have := run_ret h7
      cases this
      obtain ⟨e, e2⟩ := cast_some hz
      subst e
      cases e2
      obtain ⟨_, cs, e1, hv⟩ := evd_TV h h1
      obtain ⟨vs, q1, q2, q3, q4, q5, q6, q7, okj, q8, q9, q10⟩ := elems_run hT h h6
      have hc := VR_cells h hv
      have hF := full_FK h h4 hv
      refine ⟨valOf t' cs :: vs, ?_, ?_, by simp [q3], by simp [q4], ?_, ?_, ?_, okCons (fun k => ∃ r ∈ idsT t' m, g.S r k) okj, ?_, ?_, ?_⟩
      · simp only [List.map_cons, List.zipIdx_cons, e1, q1]
      · intro v hv2
        rcases List.mem_cons.1 hv2 with rfl | hv2
        · have := congrArg List.length hc
          rw [Array.length_toList] at this
          rw [this, VR_len hv]
        · exact q2 v hv2
      · intro r hr2
        rcases List.mem_append.1 hr2 with hr2 | hr2
        · exact full_alive h4 r hr2
        · exact q5 r hr2
      · intro ho
        rw [Bool.and_eq_true] at ho
        have hM := full_M h h4 hv ho.1
        rw [List.flatMap_cons, hc]
        refine Reps_cons (t'.kd.M_mono ?_ hM) (VR_len hv) ((q6 ho.2).imp_ (fun p c hp => t'.kd.M_mono ?_ hp))
        · rintro k ⟨q, hq, hk⟩; exact ⟨q, List.mem_append_left _ hq, hk⟩
        · rintro k ⟨q, hq, hk⟩; exact ⟨q, List.mem_append_right _ hq, hk⟩
      · rw [List.flatMap_cons, hc]
        refine Reps_cons (Kd.FK_mono hF ?_) (VR_len hv) (q7.imp_ (fun p c hp => Kd.FK_mono hp ?_))
        · rintro k (hk | ⟨q, hq, hk⟩)
          · exact .inl hk
          · exact .inr ⟨q, List.mem_append_left _ hq, hk⟩
        · rintro k (hk | ⟨q, hq, hk⟩)
          · exact .inl hk
          · exact .inr ⟨q, List.mem_append_right _ hq, hk⟩
      · intro j k hk
        cases j with
        | zero =>
          obtain ⟨q, hq, hs⟩ := hk
          exact ⟨q, List.mem_append_left _ hq, hs⟩
        | succ j =>
          obtain ⟨q, hq, hs⟩ := q8 j k hk
          exact ⟨q, List.mem_append_right _ hq, hs⟩
      · intro hnd i j k hi hj
        have hsep : ∀ j', okj j' k → (∃ r ∈ idsT t' m, g.S r k) → False := by
          rintro j' hk' ⟨q, hq, hs⟩
          obtain ⟨q', hq', hs'⟩ := q8 j' k hk'
          exact h.dRR q q' (full_alive h4 q hq) (q5 q' hq') (fun e => nodup_app hnd q hq (e ▸ hq')) k hs hs'
        cases i with
        | zero =>
          cases j with
          | zero => rfl
          | succ j => exact (hsep j hj hi).elim
        | succ i =>
          cases j with
          | zero => exact (hsep i hi hj).elim
          | succ j => rw [q9 (nodup_right hnd) i j k hi hj]
      · intro ho j x hj
        rw [Bool.and_eq_true] at ho
        have hl := VR_len hv
        rw [List.flatMap_cons, hc]
        cases j with
        | zero =>
          simp at hj
          subst hj
          rw [Nat.zero_mul, List.drop_zero, ← hl, List.take_left]
          exact t'.kd.M_mono (fun k hk => hk) (full_M h h4 hv ho.1)
        | succ j =>
          simp at hj
          have e : (j + 1) * t'.sz = cs.length + j * t'.sz := by rw [Nat.add_mul, Nat.one_mul, hl]; omega
          rw [e, ← List.drop_drop, List.drop_left]
          exact q10 ho.2 j x hj
    · exact (run_fail h5).elim
/-- A value that stands in a new block, only read from now on; the rows it leads to are given up. -/
theorem Rel.frozen (h : Rel F g st a w) {d : Nat} (hd : F.slot d) {ids : List Nat} (hal : ∀ r ∈ ids, Alive st (kR r)) {tv : TV} {v : Value} {w' : World} (hb : Below w.heap.size w w')
    (ht : (∀ k, k < w.heap.size → (F.ok g st k ∨ ∃ r ∈ ids, g.S r k) → F.ok g ((drops ids ++ [(kT d, some (.tv tv))]) ++ st) k) → F.ok g ((drops ids ++ [(kT d, some (.tv tv))]) ++ st) w.heap.size →
      TVR g (dom ((drops ids ++ [(kT d, some (.tv tv))]) ++ st)) w' (F.ok g ((drops ids ++ [(kT d, some (.tv tv))]) ++ st)) tv v) : Rel F g ((drops ids ++ [(kT d, some (.tv tv))]) ++ st) (a.put (some d) v) w' := by
  let wr : Wr := drops ids ++ [(kT d, some (.tv tv))]
  have gwr : ∀ k, get wr k = get [(kT d, some (Val.tv tv))] k ∨ get wr k = none := fun k => by
    cases hk : dom (drops ids) k with
    | true => exact .inr ((get_app_in hk).trans get_drops)
    | false => exact .inl (get_app_out hk)
  have dB : ∀ b, dom wr (kB b) = false := fun b => by
    show dom (drops ids ++ _) (kB b) = false
    rw [dom_app, dom_drops_B, dom_one_ne _ (kT_kB d b)]; rfl
  have dT : ∀ i, dom wr (kT i) = true → i = d := fun i hi => by
    have hi2 : dom (drops ids ++ [(kT d, some (Val.tv tv))]) (kT i) = true := hi
    rw [dom_app, dom_drops_T, Bool.false_or] at hi2
    by_cases e : i = d
    · exact e
    · rw [dom_one_ne _ (fun e' => e (kT_inj e').symm)] at hi2; cases hi2
  have dR : ∀ r, dom wr (kR r) = true → r ∈ ids := fun r hr => by
    have hr2 : dom (drops ids ++ [(kT d, some (Val.tv tv))]) (kR r) = true := hr
    rw [dom_app, dom_one_ne _ (kT_kR d r), Bool.or_false] at hr2
    obtain ⟨q, hq, e⟩ := dom_drops hr2
    exact kR_inj e ▸ hq
  have dRi : ∀ r ∈ ids, dom wr (kR r) = true := fun r hr => by
    show dom (drops ids ++ _) (kR r) = true
    rw [dom_app, drops_dom hr, Bool.true_or]
  have gR : ∀ r v, get wr (kR r) = some v → False := fun r v hv => by
    rcases gwr (kR r) with h1 | h1
    · rw [h1, get_one_ne _ (kT_kR d r)] at hv; cases hv
    · rw [h1] at hv; cases hv
  have aB : ∀ b, Alive (wr ++ st) (kB b) → Alive st (kB b) := fun b hb => (alive_app_out (dB b)).1 hb
  have aR : ∀ r, Alive (wr ++ st) (kR r) → r ∉ ids ∧ Alive st (kR r) := fun r hr => by
    cases hdr : dom wr (kR r) with
    | true =>
      rw [alive_app_in hdr] at hr
      obtain ⟨v, hv⟩ := hr
      exact (gR r v hv).elim
    | false =>
      refine ⟨fun hi => ?_, (alive_app_out hdr).1 hr⟩
      rw [dRi r hi] at hdr; cases hdr
  have hmut : ∀ k, Mut g (wr ++ st) k → Mut g st k := by
    rintro k (⟨b, hb, e⟩ | ⟨r, hr, hs⟩)
    · exact .inl ⟨b, aB b hb, e⟩
    · exact .inr ⟨r, (aR r hr).2, hs⟩
  have hok : ∀ k, k < w.heap.size → (F.ok g st k ∨ ∃ r ∈ ids, g.S r k) → F.ok g (wr ++ st) k := by
    rintro k hk (h1 | ⟨r, hr, hs⟩)
    · exact ⟨h1.1, fun hm => h1.2 (hmut k hm)⟩
    · refine ⟨.inr (h.newR r (hal r hr) k hs).1, ?_⟩
      rintro (⟨b, hb, e⟩ | ⟨q, hq, hs'⟩)
      · exact h.dBR b r (aB b hb) (hal r hr) (by rw [e]; exact hs)
      · have := aR q hq
        exact h.dRR r q (hal r hr) this.2 (fun e => this.1 (e ▸ hr)) k hs hs'
  have hnew : F.ok g (wr ++ st) w.heap.size := ⟨.inr (.inl h.grow), fun hm => by have := h.mutLt (hmut _ hm); omega⟩
  refine h.upd g wr _ w' (fun _ => False) (by rw [put_size, h.size]) (fun i hi => by cases e : dom wr (kT i) with | false => rfl | true => have h1 := dT i e; have h2 := hd.1; omega) (by rw [put_defers, h.defers]) hb.os hb.tape hb.output hb.size (fun k hk _ => hb.block k hk)
    (fun _ hk => hk.elim) (fun _ _ => rfl) (fun _ _ => rfl) (fun _ _ => rfl) (fun _ _ => rfl) (fun _ _ _ => rfl) (fun k _ hm => hmut k hm) (fun _ _ _ hk => hk) (fun _ _ _ _ _ hk => hk) ?_ ?_ ?_ ?_ ?_ ?_ ?_ ?_
  · intro i hi
    refine put_ne (fun e => ?_)
    subst e
    have : dom wr (kT i) = true := by
      show dom (drops ids ++ _) (kT i) = true
      rw [dom_app, dom_cons_same, Bool.or_true]
    rw [this] at hi; cases hi
  · intro hmv i v' hv
    have ei := dT i (dom_of_get hv)
    subst ei
    rcases gwr (kT i) with h1 | h1
    · rw [h1, get_cons_same] at hv
      injection hv with hv
      subst hv
      refine ⟨tv, rfl, ?_⟩
      rw [put_same (by rw [h.size]; exact hd.2)]
      exact ht hok hnew
    · rw [h1] at hv; cases hv
  · intro _ b v' hv
    have := dB b
    rw [dom_of_get hv] at this; cases this
  · intro r v' hv
    exact (gR r v' hv).elim
  · intro r hr
    exact h.isl r (dom_of_alive (hal r (dR r hr)))
  · intro b b' hb hb' e
    exact h.dBB b b' (aB b hb) (aB b' hb') e
  · intro b r hb hr
    exact h.dBR b r (aB b hb) (aR r hr).2
  · intro r r' hr hr' hne
    exact h.dRR r r' (aR r hr).2 (aR r' hr').2 hne
theorem op_buildSlice (hT : TabOk P T) (h : Rel F g st a w) {S n : Nat} {parts : Array (Nat × Operand)} (ho : o.op = .buildSlice S n parts) (hn : ∀ d, o.dst = some d → F.slot d) (hr : (opEff T G o).run st = some (.wr wr, l)) : OpOk P F o st wr a w := by
  unfold opEff at hr
  rw [ho] at hr
  simp only at hr
  split at hr
  · rename_i d e t hd hS
    obtain ⟨hc0, hr⟩ := run_chk hr
    rw [Bool.and_eq_true] at hc0
    have hpn := Nat.eq_of_beq_eq_true hc0.1
    have hmx := Nat.le_of_ble_eq_true hc0.2
    obtain ⟨⟨xs, ids, own⟩, l1, l2, h1, h2, _⟩ := run_bind hr
    dsimp only at h2
    obtain ⟨vs, q1, q2, q3, q4, q5, q6, q7, okj, q8, q9, q10⟩ := elems_run hT h h1
    obtain ⟨hu, bytes, hin, hb1, hb2, _⟩ := (hT.ty _ _ hS).und
    obtain ⟨j, hj, hz⟩ := Option.map_eq_some_iff.1 hin
    injection hz with hz1 hz2
    injection hz2 with hz2 hz3
    have hlen : parts.toList.length = n := by rw [Array.length_toList]; exact hpn
    have hvl : vs.length = n := by rw [q4, hlen]
    have hxl : xs.length = n := by rw [q3, hlen]
    have hszr : (sizeOf e).run P w = .ok t.sz w := by simp [sizeOf, typeInfo, hj, hz2]
    have hzr : (zeroValue e).run P w = .ok (valOf t (zc t)) w := by simp [zeroValue, typeInfo, hj, hz1]
    have hfill : ∀ cells : Array Value, cells.size = n * t.sz → Instr.fill (fun i => some (i * t.sz, t.sz)) cells (parts.map fun (x : Nat × Operand) => (x.1, a.eval x.2)).toList = some (vs.flatMap fun v => v.cells.toList).toArray := by
      intro cells hcs
      have : (parts.map fun (x : Nat × Operand) => (x.1, a.eval x.2)).toList = (vs.zipIdx 0).map (fun x => (x.2, x.1)) := by rw [← q1]; simp
      rw [this]
      exact Go.Great.fill_whole (sz_pos t) vs cells q2 (by rw [hvl, hcs])
    have hrun : (Instr.buildSlice S n (parts.map fun (x : Nat × Operand) => (x.1, a.eval x.2))).run P w = .ok (.slice (some ⟨w.heap.size, 0, none⟩) n n) (w.alloc (.cells (vs.flatMap fun v => v.cells.toList).toArray e)) := by
      unfold Instr.buildSlice
      simp only [Sem.run_bind, run_underlying hu, Result.andThen_ok, hszr]
      rw [if_neg (by omega)]
      by_cases h0 : n * t.sz = 0
      · simp only [if_pos h0, Sem.run_bind, Sem.run_pure, Result.andThen_ok]
        rw [hfill _ (by simp)]
        rfl
      · simp only [if_neg h0, Sem.run_bind, hzr, Sem.run_pure, Result.andThen_ok]
        rw [hfill _ (by simp)]
        rfl
    intro ops Kc Q hw hK
    have hex : (execOp a.eval o).run P w = .ok (.value (.slice (some ⟨w.heap.size, 0, none⟩) xs.length xs.length)) (w.alloc (.cells (vs.flatMap fun v => v.cells.toList).toArray e)) := by
      unfold execOp
      simp only [ho, Sem.run_bind]
      have : (parts.map fun (x : Nat × Operand) => match x with | (i, x) => (i, a.eval x)) = parts.map fun (x : Nat × Operand) => (x.1, a.eval x.2) := rfl
      rw [this, hrun, hxl]
      rfl
    cases own with
    | true =>
      obtain ⟨hone, h3⟩ := run_chk h2
      obtain ⟨l3, hf, h4, _⟩ := run_fresh h3
      have := run_ret h4
      injection this with this
      subst this
      have hrep := q6 rfl
      have step := Kd.S_lits_step (P := P) (ops := ops) (Q := Q) (Kc := Kc) (o := o) (a := a) t.kd (w0 := w) (W := w) 0 e hw hd (xs := xs) (inner := vs.flatMap fun v => v.cells.toList) (ok := fun k => (∃ r ∈ ids, g.S r k) ∨ w.heap.size ≤ k) okj
        hex (by rw [kd_sz]; exact hrep.1) (fun j x hj => by rw [kd_sz]; exact q10 rfl j x hj) (q9 hone) (fun j k hk => .inl (q8 j k hk)) (.inr (Nat.le_refl _)) (Below.refl _ _) (Nat.zero_le _) (by rw [hxl]; have := sz_pos t; have : n ≤ n * t.sz := Nat.le_mul_of_pos_right _ this; omega)
        (fun v1 w1 hR hB hg _ => by
          rw [hd]
          obtain ⟨g', hg'⟩ := h.newRow (hn d hd) (w' := w1) (v1 := v1) (e := e) q5 hf hg.os hg.tape hg.output hg.size (fun k hk _ => hg.block k hk (by simp)) hR
          exact hK g' _ _ hg')
      rw [if_pos hw] at step
      exact step
    | false =>
      have := run_ret h2
      injection this with this
      subst this
      unfold Oper.wp
      rw [hex]
      show Kc (a.put o.dst _) _
      rw [hd]
      refine hK g _ _ (h.frozen (hn d hd) q5 (below_alloc (Below.refl _ _) _) (fun hok hnew => ?_))
      simp only [TVR]
      refine ⟨[.slice (some ⟨w.heap.size, 0, none⟩) xs.length xs.length], rfl, VR_no.2 (slice_FK (t := t) rfl (Nat.le_refl _) (fun W' hW => ?_))⟩
      have hsize : w.heap.size < (w.alloc (.cells (vs.flatMap fun (v : Value) => v.cells.toList).toArray e)).heap.size := heap_some_lt (heap_alloc_new w _)
      have hblk : W'.heap[w.heap.size]? = some (.cells ([] ++ (vs.flatMap fun (v : Value) => v.cells.toList) ++ []).toArray e (0, 0)) := by
        rw [hW _ hnew hsize, heap_alloc_new]; simp
      have hcells := cells_of_block hblk rfl
      have hmx2 : xs.length ≤ 9223372036854775807 := by
        rw [hxl]
        have := sz_pos t
        have : n ≤ n * t.sz := Nat.le_mul_of_pos_right _ this
        omega
      refine ⟨rfl, hmx2, fun hp => ⟨⟨w.heap.size, 0, none⟩, rfl, fun i p hi => ?_⟩⟩
      have hfk := q7.2 i p hi
      have hil : i < xs.length := (List.getElem?_eq_some_iff.1 hi).1
      have hK' : t.kd.K W' p (((vs.flatMap fun (v : Value) => v.cells.toList).drop (i * t.sz)).take t.sz) := hfk W' (fun k hk hlt => by
        rw [hW k (hok k hlt hk) (by omega)]
        exact Below.heap_alloc w _ k hlt)
      refine ⟨_, t.kd.K_len hK', hK', fun m u hu => ?_⟩
      have hm : m < t.sz := by
        have h1 := (List.getElem?_eq_some_iff.1 hu).1
        rw [t.kd.K_len hK', kd_sz] at h1
        exact h1
      rw [List.getElem?_take_of_lt hm, List.getElem?_drop] at hu
      rw [kd_sz]
      exact hcells _ u hu
  · exact (run_fail hr).elim
theorem num64_TV (h : Rel F g st a w) {x : Operand} {n : Int} {l : List Nat} (hx : (num64 x).run st = some (n, l)) : a.eval x = .int .i64 n := by
  obtain ⟨v, l1, l2, h1, h2, _⟩ := run_bind hx
  have hv := ev_TV h h1
  split at h2
  · obtain rfl := run_ret h2
    exact TV_int hv
  · exact (run_fail h2).elim
theorem op_makeSlice (hT : TabOk P T) (h : Rel F g st a w) {S : Nat} {x y : Operand} (ho : o.op = .makeSlice S x y) (hn : ∀ d, o.dst = some d → F.slot d) (hr : (opEff T G o).run st = some (.wr wr, l)) : OpOk P F o st wr a w := by
  unfold opEff at hr
  rw [ho] at hr
  simp only at hr
  split at hr
  · rename_i d e t hd hS
    obtain ⟨n, l1, l2, h1, h2, _⟩ := run_bind hr
    obtain ⟨hc0, h5⟩ := run_chk h2
    obtain ⟨l5, hf, h6, _⟩ := run_fresh h5
    have := run_ret h6
    injection this with this
    subst this
    simp only [Bool.and_eq_true, decide_eq_true_eq] at hc0
    obtain ⟨hso, hn0, hn1⟩ := hc0
    have e1 := num64_TV h h1
    have e2 : a.eval y = .int .i64 n := by
      have : x = y := by
        cases x <;> cases y <;> simp only [opEff.sameOp] at hso <;> first | (cases hso; done) | rw [Nat.eq_of_beq_eq_true hso]
      rw [← this]; exact e1
    obtain ⟨hu, bytes, hin, hb1, hb2, _⟩ := (hT.ty _ _ hS).und
    intro ops Kc Q hw hK
    have hsz : (valOf t (zc t)).cells.size = t.kd.sz := by rw [valOf_zc, List.size_toArray, zc_len, kd_sz]
    have step := Kd.S_make_step (P := P) (ops := ops) (Q := Q) (Kc := Kc) (o := o) (a := a) t.kd (w0 := w) (W := w) 0 e hw hd S x y ho n e1 e2 hu (valOf t (zc t)) bytes (by rw [kd_sz]; exact hin) hsz (by rw [kd_sz]; exact sz_pos t) hb1
      t.zero (okp := fun _ => False) (ok := fun k => (∃ r ∈ ([] : List Nat), g.S r k) ∨ w.heap.size ≤ k) (by rw [valOf_zc, List.toList_toArray]; exact zc_M t) (fun k hk => hk.elim) (.inr (Nat.le_refl _)) hn0
      (by have : n.toNat ≤ 549755813888 := by omega
          have := Nat.mul_le_mul this hb2
          omega) (Below.refl _ _) (Nat.zero_le _)
      (fun v1 w1 hR hB hg _ => by
        rw [hd]
        obtain ⟨g', hg'⟩ := h.newRow (hn d hd) (w' := w1) (v1 := v1) (e := e) (ids := []) (fun r hr => by cases hr) hf hg.os hg.tape hg.output hg.size (fun k hk _ => hg.block k hk (by simp)) hR
        exact hK g' _ _ hg')
    rw [if_pos hw] at step
    exact step
  · exact (run_fail hr).elim

theorem slice_ownS {e : Nat} {t : Ty} {x y : (Ty.slice e t).den} {m : Mk} {l : List Nat} {cs : List Value} (h : Rel F g st a w) (hf : (full (.slice e t) x m).run st = some (y, l)) (hv : VR g (dom st) w (F.ok g st) (.slice e t) x m cs) (ho : ownable (.slice e t) m = true) :
    ∃ v, cs = [v] ∧ Kd.S t.kd e w 0 (fun k => ∃ r ∈ idsT (.slice e t) m, g.S r k) v y := by
  cases m with
  | own r =>
    simp only [full] at hf
    obtain ⟨u, l', h1, h2, _⟩ := run_rd hf
    split at h2
    · rename_i e' t' xs
      split at h2
      · rename_i z hz
        obtain rfl := run_ret h2
        obtain ⟨e1, e2⟩ := cast_some hz
        injection e1 with e0 e1
        subst e1
        subst e0
        cases e2
        simp only [VR] at hv
        exact ⟨g.ρ r, hv.1, Kd.S_mono (h.rowS h1).2 (fun k hk => ⟨r, by simp [idsT], hk⟩)⟩
      · exact (run_fail h2).elim
    · exact (run_fail h2).elim
  | nil =>
    simp only [full] at hf
    obtain rfl := run_ret hf
    simp only [VR] at hv
    exact ⟨_, hv, Kd.S_nil _ _ _ _ _⟩
  | no => cases ho
  | pair p q => cases ho
theorem zipIdx_at {α : Type} {ys : List α} {n j : Nat} {p : α × Nat} (h : (ys.zipIdx n)[j]? = some p) : ∃ y, ys[j]? = some y ∧ p = (y, n + j) := by
  rw [List.getElem?_zipIdx] at h
  obtain ⟨y, hy, rfl⟩ := Option.map_eq_some_iff.1 h
  exact ⟨y, hy, rfl⟩
theorem rows_zip {α : Type} {Rr : α → List Value → Prop} {Rp : α × Nat → List Value → Prop} {size m : Nat} {A : Option Addr} {ys : List α} (n : Nat) (h : ReadsRow Rr size w A m ys) (hp : ∀ j y cs, ys[j]? = some y → Rr y cs → Rp (y, n + j) cs) : ReadsRow Rp size w A m (ys.zipIdx n) := by
  refine ⟨by rw [List.length_zipIdx]; exact h.1, h.2.1, fun h0 => ?_⟩
  obtain ⟨ad, ha, hc⟩ := h.2.2 h0
  refine ⟨ad, ha, fun j p hj => ?_⟩
  obtain ⟨y, hy, rfl⟩ := zipIdx_at hj
  obtain ⟨c, h1, h2, h3⟩ := hc j y hy
  exact ⟨c, h1, hp j y c hy h2, h3⟩
theorem rows_zipS {t : Ty} {e : Nat} {f : Nat → Nat} {ok' : Nat → Prop} {v : Value} {xs : List t.den} {Rp : t.den × Nat → List Value → Prop} (n : Nat) (hR : (Kd.tag f t.kd).R e w 0 ok' v xs.zipIdx) (hp : ∀ j x cs, t.kd.M w 0 (fun k => (ok' k ∧ some k ≠ v.ownBlock) ∧ f k = j) x cs → Rp (x, n + j) cs) :
    ∃ A c, v = .slice A xs.length c ∧ ReadsRow Rp t.kd.sz w A xs.length (xs.zipIdx n) := by
  obtain ⟨A, c, h1, _, h3⟩ := OwnRow.reads hR.2
  rw [List.length_zipIdx] at h1 h3
  refine ⟨A, c, h1, by rw [List.length_zipIdx], h3.2.1, fun h0 => ?_⟩
  obtain ⟨ad, ha, hc⟩ := h3.2.2 h0
  refine ⟨ad, ha, fun j p hj => ?_⟩
  obtain ⟨y, hy, rfl⟩ := zipIdx_at hj
  obtain ⟨c, h4, h5, h6⟩ := hc j (y, j) (by rw [List.getElem?_zipIdx, hy, Nat.zero_add]; rfl)
  exact ⟨c, h4, hp j y c h5, h6⟩
theorem op_append (hT : TabOk P T) (h : Rel F g st a w) {S : Nat} {s x : Operand} {c : Call} (ho : o.op = .call c) (hc1 : c.callee = .builtin .append) (hc2 : c.args.toList = [s, x]) (S' : Nat) (hc3 : c.argTypes.toList = [S, S']) (hn : ∀ d, o.dst = some d → F.slot d)
    (hr : (appEff T o s x S S').run st = some (.wr wr, l)) : OpOk P F o st wr a w := by
  unfold appEff at hr
  obtain ⟨hss, hr1⟩ := run_chk hr
  clear hr
  have hss := Nat.eq_of_beq_eq_true hss
  subst hss
  have hc2' : c.args = #[s, x] := by rw [← Array.toArray_toList (xs := c.args), hc2]
  have hc3' : c.argTypes = #[S, S] := by rw [← Array.toArray_toList (xs := c.argTypes), hc3]
  split at hr1
  · rename_i d e t hd hS
    obtain ⟨⟨t1, y1, m1⟩, l1, l2, h1, h2, _⟩ := run_bind hr1
    obtain ⟨⟨t2, y2, m2⟩, l3, l4, h3, h4, _⟩ := run_bind h2
    obtain ⟨z1, l5, l6, h5, h6, _⟩ := run_bind h4
    obtain ⟨z2, l7, l8, h7, h8, _⟩ := run_bind h6
    obtain ⟨ht1, cs1, e1, hv1⟩ := evd_TV h h1
    obtain ⟨ht2, cs2, e2, hv2⟩ := evd_TV h h3
    rw [hS] at ht1 ht2
    injection ht1 with ht1
    injection ht2 with ht2
    subst ht1
    subst ht2
    split at h8
    · rename_i xs ys hx hy
      obtain ⟨q1, q2⟩ := cast_some hx
      cases q2
      obtain ⟨q3, q4⟩ := cast_some hy
      cases q4
      obtain ⟨hc0, h8⟩ := run_chk h8
      obtain ⟨hc1, h9⟩ := run_chk h8
      obtain ⟨l9, hf, h10, _⟩ := run_fresh h9
      have := run_ret h10
      injection this with this
      subst this
      simp only [Bool.and_eq_true] at hc0
      obtain ⟨⟨ho1, ho2⟩, hnd⟩ := hc0
      have hsz := fit_le hc1
      obtain ⟨hu, bytes, hin, hb1, hb2, _⟩ := (hT.ty _ _ hS).und
      obtain ⟨v1, hcs1, f1, hR1⟩ := slice_ownS h h5 hv1 ho1
      have hval : (valOf t (zc t)).cells.size = t.kd.sz := by rw [valOf_zc, List.size_toArray, zc_len, kd_sz]
      have hal : ∀ r ∈ takenIds t (.slice e t) (.slice e t) m1 m2, Alive st (kR r) := by
        intro r hr
        rcases List.mem_append.1 hr with hr | hr
        · exact full_alive h5 r hr
        · cases hfl : t.flat with
          | true => rw [hfl] at hr; cases hr
          | false => rw [hfl] at hr; exact full_alive h7 r hr
      have hown : ∀ k, v1.ownBlock = some k → ∃ r ∈ takenIds t (.slice e t) (.slice e t) m1 m2, g.S r k := by
        intro k hk
        obtain ⟨r, hr, hs⟩ := hR1.1 k hk
        exact ⟨r, List.mem_append_left _ hr, hs⟩
      have hrow : ∃ (A : Option Addr) (c' : Nat) (okp : Nat → Prop) (f : Nat → Nat) (Rr : t.den × Nat → List Value → Prop), cs2 = [.slice A (List.length (α := t.den) z2) c'] ∧ ReadsRow Rr t.kd.sz w A (List.length (α := t.den) z2) (List.zipIdx (α := t.den) z2 (List.length (α := t.den) z1)) ∧ (∀ x cs, Rr x cs → (Kd.tag f t.kd).M w 0 okp x cs) ∧
          (∀ k, okp k → ((∃ r ∈ takenIds t (.slice e t) (.slice e t) m1 m2, g.S r k) ∨ w.heap.size ≤ k) ∧ some k ≠ v1.ownBlock) ∧ (Kd.tag f t.kd).R e w 0 (fun k => ∃ r ∈ idsT (.slice e t) m1, g.S r k) v1 (List.zipIdx (α := t.den) z1) := by
        cases hfl : t.flat with
        | true =>
          obtain ⟨A, c', e3, _, hC⟩ := FK_slice (full_FK h h7 hv2)
          exact ⟨A, c', fun _ => False, f1, fun p cs => t.kd.K w p.1 cs, e3, rows_zip _ hC.now (fun j y cs _ hk => hk), fun x cs hk => t.kd.M_mono (fun k hk => hk.elim) (K_M_flat (ok' := fun _ => False) hfl hk), fun k hk => hk.elim, hR1⟩
        | false =>
          rw [hfl] at ho2
          have ho2' : ownable (.slice e t) m2 = true := by simpa using ho2
          obtain ⟨v2, hcs2, f2, hR2⟩ := slice_ownS h h7 hv2 ho2'
          have hnd2 : nodup (idsT (.slice e t) m1 ++ idsT (.slice e t) m2) = true := by
            unfold takenIds at hnd
            rw [hfl] at hnd
            exact hnd
          have hdis : ∀ k, (∃ r ∈ idsT (.slice e t) m1, g.S r k) → ¬ ∃ r ∈ idsT (.slice e t) m2, g.S r k := by
            rintro k ⟨q, hq, hs⟩ ⟨r, hr, hk⟩
            exact h.dRR q r (full_alive h5 q hq) (full_alive h7 r hr) (fun e => nodup_app hnd2 q hq (e ▸ hr)) k hs hk
          obtain ⟨A, c', e3, hrr⟩ := rows_zipS (t := t) (xs := z2) (Rp := fun p cs => t.kd.M w 0 (fun k => ((∃ r ∈ idsT (.slice e t) m2, g.S r k) ∧ some k ≠ v2.ownBlock) ∧ List.length (α := t.den) z1 + f2 k = p.2) p.1 cs) (List.length (α := t.den) z1) hR2
            (fun j x cs hm => t.kd.M_mono (fun k hk => ⟨hk.1, by rw [hk.2]⟩) hm)
          classical
          refine ⟨A, c', fun k => ∃ r ∈ idsT (.slice e t) m2, g.S r k, fun k => if (∃ r ∈ idsT (.slice e t) m2, g.S r k) then List.length (α := t.den) z1 + f2 k else f1 k, _, by rw [hcs2, e3], hrr, fun x cs hk => ?_, ?_, ?_⟩
          · exact t.kd.M_mono (fun k hk => ⟨hk.1.1, (if_pos hk.1.1).trans hk.2⟩) hk
          · rintro k ⟨r, hr, hk⟩
            refine ⟨.inl ⟨r, ?_, hk⟩, fun he => ?_⟩
            · refine List.mem_append_right _ ?_
              rw [hfl]; exact hr
            · exact hdis k (hR1.1 k he.symm) ⟨r, hr, hk⟩
          · exact Kd.R_tag hR1 (fun k hk _ => if_neg (hdis k hk))
      obtain ⟨A, c', okp, f, Rr, hcs2, hRd, hKM, hokp, hRf⟩ := hrow
      intro ops Kc Q hw hK
      have es : a.eval s = v1 := by rw [e1, hcs1]; rfl
      have ex : a.eval x = .slice A (List.length (α := t.den) z2) c' := by rw [e2, hcs2]; rfl
      have step := Kd.R_append_rows_step (P := P) (ops := ops) (Q := Q) (Kc := Kc) (o := o) (a := a) (Kd.tag f t.kd) (Rr := Rr) (w0 := w) (W := w) 0 hw s x S e (valOf t (zc t)) bytes
        (by rw [ho]; congr 1; cases c; simp only at hc1 hc2' hc3'; rw [hc1, hc2', hc3']) hu (by show _ = some (some (valOf t (zc t)), t.kd.sz, bytes); rw [kd_sz]; exact hin) hval (by show 0 < t.kd.sz; rw [kd_sz]; exact sz_pos t) hb1
        v1 (List.zipIdx (α := t.den) z1) (List.zipIdx (α := t.den) z2 (List.length (α := t.den) z1)) A (List.length (α := t.den) z2) c' (fun k => (∃ r ∈ takenIds t (.slice e t) (.slice e t) m1 m2, g.S r k) ∨ w.heap.size ≤ k) okp es ex
        (Kd.R_mono hRf (fun k hk => by obtain ⟨r, hr, hs⟩ := hk; exact .inl ⟨r, List.mem_append_left _ hr, hs⟩)) hRd hKM hokp (fun k hk => .inr hk) (Below.refl _ _) (Nat.zero_le _)
        (by have h20 : List.length (α := t.den) z1 + List.length (α := t.den) z2 ≤ 549755813888 := by omega
            have := Nat.mul_le_mul h20 hb2
            rw [List.length_zipIdx]
            omega)
        (fun v1' w1 hR hB hg _ => by
          rw [hd]
          obtain ⟨g', hg'⟩ := h.newRow (hn d hd) (w' := w1) (v1 := v1') (e := e) hal hf hg.os hg.tape hg.output hg.size
            (fun k hk hne => hg.block k hk (fun he => hne (hown k he.symm))) (xs := List.append (α := t.den) z1 z2) ⟨f, by
              have e9 : List.zipIdx (α := t.den) (List.append (α := t.den) z1 z2) = List.zipIdx (α := t.den) z1 ++ List.zipIdx (α := t.den) z2 (List.length (α := t.den) z1) := by
                have := List.zipIdx_append (xs := (z1 : List t.den)) (ys := (z2 : List t.den)) (k := 0)
                simpa using this
              rw [e9]
              exact hR⟩
          exact hK g' _ _ hg')
      rw [if_pos hw] at step
      exact step
    · exact (run_fail h8).elim
  · exact (run_fail hr1).elim
theorem op_zapp (hT : TabOk P T) (h : Rel F g st a w) {S S' : Nat} {s x : Operand} {c : Call} {kk : IntKind} (ho : o.op = .call c) (hc1 : c.callee = .builtin .append) (hc2 : c.args.toList = [s, x]) (hk : T.ty S' = some (.int kk)) (hc3 : c.argTypes.toList = [S, S']) (hn : ∀ d, o.dst = some d → F.slot d)
    (hr : (zappEff T o s x S).run st = some (.wr wr, l)) : OpOk P F o st wr a w := by
  unfold zappEff at hr
  have hc2' : c.args = #[s, x] := by rw [← Array.toArray_toList (xs := c.args), hc2]
  have hc3' : c.argTypes = #[S, S'] := by rw [← Array.toArray_toList (xs := c.argTypes), hc3]
  split at hr
  · rename_i d e t hd hS
    obtain ⟨⟨t1, y1, m1⟩, l1, l2, h1, h2, _⟩ := run_bind hr
    obtain ⟨n, l3, l4, h3, h4, _⟩ := run_bind h2
    obtain ⟨z1, l5, l6, h5, h6, _⟩ := run_bind h4
    obtain ⟨ht1, cs1, e1, hv1⟩ := evd_TV h h1
    rw [hS] at ht1
    injection ht1 with ht1
    subst ht1
    split at h6
    · rename_i xs hx
      obtain ⟨q1, q2⟩ := cast_some hx
      cases q2
      obtain ⟨ho1, h7⟩ := run_chk h6
      obtain ⟨hn0, h8⟩ := run_chk h7
      obtain ⟨hft, h9⟩ := run_chk h8
      obtain ⟨l9, hf, h10, _⟩ := run_fresh h9
      have := run_ret h10
      injection this with this
      subst this
      have hn0 : 0 ≤ n := of_decide_eq_true hn0
      have hft := fit_le hft
      obtain ⟨hu, bytes, hin, hb1, hb2, _⟩ := (hT.ty _ _ hS).und
      have hui : P.underlying S' = some (.int kk) := (hT.ty _ _ hk).und
      obtain ⟨kx, ex⟩ := num_TV h h3
      obtain ⟨v1, hcs1, hR1⟩ := slice_ownS h h5 hv1 ho1
      have hval : (valOf t (zc t)).cells.size = t.kd.sz := by rw [valOf_zc, List.size_toArray, zc_len, kd_sz]
      have hal : ∀ r ∈ idsT (.slice e t) m1, Alive st (kR r) := full_alive h5
      have hown : ∀ k, v1.ownBlock = some k → ∃ r ∈ idsT (.slice e t) m1, g.S r k := fun k hk => (Kd.S_R hR1).1 k hk
      intro ops Kc Q hw hK
      have es : a.eval s = v1 := by rw [e1, hcs1]; rfl
      have step := Kd.S_append_zeros_step (P := P) (ops := ops) (Q := Q) (Kc := Kc) (o := o) (a := a) t.kd (w0 := w) (W := w) 0 hw s x S S' e (valOf t (zc t)) bytes
        (by rw [ho]; congr 1; cases c; simp only at hc1 hc2' hc3'; rw [hc1, hc2', hc3']) hu hui (by rw [kd_sz]; exact hin) hval (by rw [kd_sz]; exact sz_pos t) hb1
        v1 z1 t.zero n (fun k => (∃ r ∈ idsT (.slice e t) m1, g.S r k) ∨ w.heap.size ≤ k) es ex (by rw [valOf_zc, List.toList_toArray]; exact zc_M t) (fun k hk => .inr hk)
        (Kd.S_mono hR1 (fun k hk => .inl hk)) hn0 (Below.refl _ _) (Nat.zero_le _)
        (by have := Nat.mul_le_mul hft hb2
            omega)
        (fun v1' w1 hR hB hg _ => by
          rw [hd]
          obtain ⟨g', hg'⟩ := h.newRow (hn d hd) (w' := w1) (v1 := v1') (e := e) hal hf hg.os hg.tape hg.output hg.size
            (fun k hk hne => hg.block k hk (fun he => hne (hown k he.symm))) hR
          exact hK g' _ _ hg')
      rw [if_pos hw] at step
      exact step
    · exact (run_fail h6).elim
  · exact (run_fail hr).elim
end
end Go.Proofs.YtcmjbplnjjdcdaaGreat.Ref

namespace Go.Proofs.YtcmjbplnjjdcdaaGreat.Ref
open Go.RowKit Go.Proofs.YtcmjbplnjjdcdaaGreatW.PrintWords Go.Proofs.YtcmjbplnjjdcdaaGreatW.PrintLast

section
variable {P : Program} {T : Tab} {G : Sigs} {F : Fx} {g : Gh} {st : St} {a : Act} {w : World} {o : Oper} {d : Nat} {l : List Nat} {wr : Wr} {D : Nat → Bool} {ok : Nat → Prop}
/-- One that leaves what there was as it is, and yields. -/
theorem Rel.putExt (h : Rel F g st a w) {d : Nat} (hd : F.slot d) {tv : TV} {v : Value} {w' : World} (hb : Below w.heap.size w w') (ht : TVR g (dom st) w' (F.ok g st) tv v) :
    Rel F g ((kT d, some (.tv tv)) :: st) (a.put (some d) v) w' := by
  have hB : ∀ b, dom [(kT d, some (Val.tv tv))] (kB b) = false := fun b => dom_one_ne _ (kT_kB d b)
  have hR : ∀ r, dom [(kT d, some (Val.tv tv))] (kR r) = false := fun r => dom_one_ne _ (kT_kR d r)
  refine h.upd g [(kT d, some (.tv tv))] _ w' (fun _ => False) (by rw [put_size, h.size]) (fun i hi => dom_one_ne _ (fun e => by have h1 := kT_inj e; have h2 := hd.1; omega)) (by rw [put_defers, h.defers]) hb.os hb.tape hb.output hb.size (fun k hk _ => hb.block k hk)
    (fun _ hk => hk.elim) (fun _ _ => rfl) (fun _ _ => rfl) (fun _ _ => rfl) (fun _ _ => rfl) (fun _ _ _ => rfl) (fun k _ hm => (mut_app_T hB hR k).1 hm) (fun _ _ _ hk => hk) (fun _ _ _ _ _ hk => hk) ?_ ?_ ?_ ?_ (fun r hr => by rw [hR r] at hr; cases hr) ?_ ?_ ?_
  · intro i hi
    refine put_ne (fun e => ?_)
    subst e
    rw [dom_cons_same] at hi; cases hi
  · intro hmv i v' hv
    by_cases e : i = d
    · subst e
      rw [get_cons_same] at hv
      injection hv with hv
      subst hv
      refine ⟨tv, rfl, ?_⟩
      rw [put_same (by rw [h.size]; exact hd.2)]
      refine TVR.mv (g := g) (D := dom st) (w := w') (ok := F.ok g st) ⟨hmv.d, fun _ _ => rfl, fun _ _ => rfl, fun _ _ => rfl, fun _ _ => rfl, fun _ _ _ => rfl, fun k hk _ => ⟨hk.1, fun hm => hk.2 ((mut_app_T hB hR k).1 hm)⟩⟩ ht
    · rw [get_cons_ne _ _ (fun e' => e (kT_inj e').symm)] at hv
      cases hv
  · intro _ b v' hv
    rw [get_cons_ne _ _ (kT_kB d b)] at hv
    cases hv
  · intro r v' hv
    rw [get_cons_ne _ _ (kT_kR d r)] at hv
    cases hv
  · intro b b' hb hb' e
    rw [alive_app_out (hB b)] at hb
    rw [alive_app_out (hB b')] at hb'
    exact h.dBB b b' hb hb' e
  · intro b r hb hr
    rw [alive_app_out (hB b)] at hb
    rw [alive_app_out (hR r)] at hr
    exact h.dBR b r hb hr
  · intro r r' hr hr' hne
    rw [alive_app_out (hR r)] at hr
    rw [alive_app_out (hR r')] at hr'
    exact h.dRR r r' hr hr' hne

theorem numO_run (h : Rel F g st a w) {x : Option Operand} {n : Option Int} {l : List Nat} (hx : (numO x).run st = some (n, l)) : (x = none ∧ n = none) ∨ ∃ y m k, x = some y ∧ n = some m ∧ a.eval y = .int k m := by
  cases x with
  | none => obtain rfl := run_ret hx; exact .inl ⟨rfl, rfl⟩
  | some y =>
    obtain ⟨m, l1, l2, h1, h2, _⟩ := run_bind hx
    obtain rfl := run_ret h2
    obtain ⟨k, e⟩ := num_TV h h1
    exact .inr ⟨y, m, k, rfl, rfl, e⟩
theorem sliceAt_slice {t e : Nat} (hu : P.underlying t = some (.slice e)) (x : Value) (lo hi : Option Value) (w : World) : (Instr.sliceAt t x lo hi none).run P w = (Instr.slice t x lo hi none).run P w := by
  unfold Instr.sliceAt
  simp [run_underlying hu]
theorem sliceAt_string {t : Nat} (hu : P.underlying t = some .string) (x : Value) (lo hi : Option Value) (w : World) : (Instr.sliceAt t x lo hi none).run P w = (Instr.slice t x lo hi none).run P w := by
  unfold Instr.sliceAt
  simp [run_underlying hu]
theorem cut_all {t e : Nat} (ht : P.underlying t = some (.slice e)) {i : TypeInfo} (hi : P.info? e = some i) (A : Option Addr) (n c : Nat) (w : World) : (Instr.slice t (.slice A n c) none none none).run P w = .ok (.slice A n c) w := by
  have ha : (A.map fun x => x.add (0 * i.size)) = A := by cases A <;> simp [Addr.add]
  unfold Instr.slice
  simp [run_underlying ht, Instr.sliceBounds, sizeOf, typeInfo, hi]
  cases A <;> simp [Addr.add]
theorem drops_only : ∀ {ids : List Nat} {k : Nat}, dom (drops ids) k = true → ∃ r ∈ ids, k = kR r
  | [], k, h => by cases h
  | r :: ids, k, h => by
    by_cases e : kR r = k
    · exact ⟨r, List.mem_cons_self .., e.symm⟩
    · simp only [drops] at h
      rw [dom_cons_ne _ _ e] at h
      obtain ⟨q, hq, h⟩ := drops_only h
      exact ⟨q, List.mem_cons_of_mem _ hq, h⟩
theorem drops_none : ∀ {ids : List Nat} {k : Nat}, get (drops ids) k = none
  | [], k => rfl
  | r :: ids, k => by
    by_cases e : kR r = k
    · subst e; simp only [drops]; rw [get_cons_same]
    · simp only [drops]; rw [get_cons_ne _ _ e]; exact drops_none
/-- Rows that are only read from now on. -/
theorem Rel.freeze (h : Rel F g st a w) {ids : List Nat} (hal : ∀ r ∈ ids, Alive st (kR r)) : Rel F g (drops ids ++ st) a w := by
  have aB : ∀ b, Alive (drops ids ++ st) (kB b) → Alive st (kB b) := fun b hb => (alive_app_out (dom_drops_B _ _)).1 hb
  have aR : ∀ r, Alive (drops ids ++ st) (kR r) → Alive st (kR r) := fun r hr => by
    cases hd : dom (drops ids) (kR r) with
    | true =>
      rw [alive_app_in hd] at hr
      obtain ⟨v, hv⟩ := hr
      rw [drops_none] at hv; cases hv
    | false => exact (alive_app_out hd).1 hr
  have hn : ∀ k v, get (drops ids) k = some v → False := fun k v hv => by rw [drops_none] at hv; cases hv
  refine h.upd g (drops ids) a w (fun _ => False) h.size (fun i _ => dom_drops_T _ _) h.defers rfl rfl rfl (Nat.le_refl _) (fun _ _ _ => rfl) (fun _ hk => hk.elim) (fun _ _ => rfl) (fun _ _ => rfl) (fun _ _ => rfl) (fun _ _ => rfl) (fun _ _ _ => rfl)
    ?_ (fun _ _ _ hk => hk) (fun _ _ _ _ _ hk => hk) (fun _ _ => rfl) (fun _ i v hv => (hn _ v hv).elim) (fun _ b v hv => (hn _ v hv).elim) (fun r v hv => (hn _ v hv).elim) ?_ ?_ ?_ ?_
  · rintro k _ (⟨b, hb, e⟩ | ⟨r, hr, e⟩)
    · exact .inl ⟨b, aB b hb, e⟩
    · exact .inr ⟨r, aR r hr, e⟩
  · intro r hr
    obtain ⟨q, hq, e⟩ := drops_only hr
    rw [kR_inj e]
    exact h.isl q (dom_of_alive (hal q hq))
  · exact fun b b' hb hb' e => h.dBB b b' (aB b hb) (aB b' hb') e
  · exact fun b r hb hr => h.dBR b r (aB b hb) (aR r hr)
  · exact fun r r' hr hr' hne => h.dRR r r' (aR r hr) (aR r' hr') hne
theorem frozen_ok (h : Rel F g st a w) {ids : List Nat} (hal : ∀ r ∈ ids, Alive st (kR r)) {k : Nat} (hk : F.ok g st k ∨ ∃ r ∈ ids, g.S r k) : F.ok g (drops ids ++ st) k := by
  have aB : ∀ b, Alive (drops ids ++ st) (kB b) → Alive st (kB b) := fun b hb => (alive_app_out (dom_drops_B _ _)).1 hb
  have aR : ∀ r, Alive (drops ids ++ st) (kR r) → r ∉ ids ∧ Alive st (kR r) := fun r hr => by
    cases hd : dom (drops ids) (kR r) with
    | true =>
      rw [alive_app_in hd] at hr
      obtain ⟨v, hv⟩ := hr
      rw [drops_none] at hv; cases hv
    | false =>
      refine ⟨fun hm => ?_, (alive_app_out hd).1 hr⟩
      rw [drops_dom hm] at hd; cases hd
  rcases hk with hk | ⟨r, hr, hs⟩
  · refine ⟨hk.1, ?_⟩
    rintro (⟨b, hb, e⟩ | ⟨q, hq, e⟩)
    · exact hk.2 (.inl ⟨b, aB b hb, e⟩)
    · exact hk.2 (.inr ⟨q, (aR q hq).2, e⟩)
  · have hal := hal r hr
    refine ⟨.inr (h.newR r hal k hs).1, ?_⟩
    rintro (⟨b, hb, e⟩ | ⟨q, hq, e⟩)
    · have e : g.β b = k := e
      subst e
      exact h.dBR b r (aB b hb) hal hs
    · obtain ⟨h1, h2⟩ := aR q hq
      exact h.dRR r q hal h2 (fun e => h1 (e ▸ hr)) k hs e
/-- What a cut of a slice that is only read, or of a text, comes to. -/
theorem slice_core (hT : TabOk P T) (h : Rel F g st a w) {S : Nat} {x : Operand} {lo hi : Option Operand} {t : Ty} {z : t.den} {cs : List Value} {n k : Option Int} {l5 l7 l9 : List Nat} {tv : TV} (hS : T.ty S = some t) (e1 : a.eval x = valOf t cs) (hfk : Kd.FK t.kd w ok z cs)
    (h6 : (numO lo).run st = some (n, l5)) (h8 : (numO hi).run st = some (k, l7)) (h10 : (sliceP t z n k).run st = some (tv, l9)) :
    ∃ v, (Instr.sliceAt S (a.eval x) (lo.map a.eval) (hi.map a.eval) none).run P w = .ok v w ∧ TVR g D w ok tv v := by
  have fin : ∀ {v : Value}, (Instr.sliceAt S (a.eval x) (lo.map a.eval) (hi.map a.eval) none).run P w = .ok v w → TVR g D w ok tv v → ∃ v, (Instr.sliceAt S (a.eval x) (lo.map a.eval) (hi.map a.eval) none).run P w = .ok v w ∧ TVR g D w ok tv v := fun h1 h2 => ⟨_, h1, h2⟩
  cases t with
  | slice e t =>
    obtain ⟨hu, bytes, hin, _, _, _⟩ := (hT.ty _ _ hS).und
    obtain ⟨j, hj, hz⟩ := Option.map_eq_some_iff.1 hin
    injection hz with hz1 hz2
    injection hz2 with hz2 hz3
    obtain ⟨A, c, e2, hl, hC⟩ := FK_slice hfk
    have e3 : a.eval x = .slice A (List.length (α := t.den) z) c := by rw [e1, e2]; rfl
    have hsz : j.size = t.kd.sz := by rw [kd_sz]; exact hz2
    have mk : ∀ {A' : Option Addr} {n' c' : Nat} {ys : List t.den}, ys.length = n' → n' ≤ c' → (∀ W, t.kd.C W A (List.length (α := t.den) z) z → t.kd.C W A' ys.length ys) → TVR g D w ok (.v (.slice e t) ys .no) (.slice A' n' c') := by
      intro A' n' c' ys h1 h2 h3
      simp only [TVR]
      exact ⟨[.slice A' n' c'], rfl, VR_no.2 (slice_FK h1 h2 (Foot.imp hC h3))⟩
    rcases numO_run h h6 with ⟨rfl, rfl⟩ | ⟨yl, nl, kl, rfl, rfl, el⟩ <;> rcases numO_run h h8 with ⟨rfl, rfl⟩ | ⟨yh, nh, kh, rfl, rfl, eh⟩
    · simp only [sliceP] at h10
      obtain rfl := run_ret h10
      refine fin (v := .slice A (List.length (α := t.den) z) c) ?_ (mk rfl hl (fun _ h => h))
      rw [sliceAt_slice hu, e3]
      exact cut_all hu hj A _ c w
    · simp only [sliceP] at h10
      obtain ⟨hc0, h10⟩ := run_chk h10
      obtain rfl := run_ret h10
      simp only [Bool.and_eq_true, decide_eq_true_eq] at hc0
      refine fin (v := .slice A nh.toNat c) ?_ (mk (by rw [List.length_take]; omega) (by omega) (fun W hW => Kd.C_take hW (by omega)))
      rw [sliceAt_slice hu, e3]
      simp only [Option.map_none, Option.map_some, eh]
      exact cut_to S e kh hu hj A _ c nh hc0.1 hc0.2 hl w
    · simp only [sliceP] at h10
      obtain ⟨hc0, h10⟩ := run_chk h10
      obtain rfl := run_ret h10
      simp only [Bool.and_eq_true, decide_eq_true_eq] at hc0
      refine fin (v := .slice (if c = nl.toNat then A else A.map (·.add (nl.toNat * t.kd.sz))) (List.length (α := t.den) z - nl.toNat) (c - nl.toNat)) ?_
        (mk (by rw [List.length_drop]) (by omega) (fun W hW => Kd.C_drop hW (by omega) hl))
      rw [sliceAt_slice hu, e3]
      simp only [Option.map_none, Option.map_some, el]
      exact cut_from S e kl hu hj _ hsz A _ c nl hc0.1 hc0.2 w
    · simp only [sliceP] at h10
      obtain ⟨hc0, h10⟩ := run_chk h10
      obtain ⟨hc1, h10⟩ := run_chk h10
      obtain rfl := run_ret h10
      simp only [Bool.and_eq_true, decide_eq_true_eq] at hc0 hc1
      refine fin (v := .slice (if c = nl.toNat then A else A.map (·.add (nl.toNat * t.kd.sz))) (nh.toNat - nl.toNat) (c - nl.toNat)) ?_
        (mk (by rw [List.length_drop, List.length_take]; omega) (by omega) (fun W hW => Kd.C_mid hW (by omega) (by omega) hl))
      rw [sliceAt_slice hu, e3]
      simp only [Option.map_some, el, eh]
      exact cut_mid S e kl kh hu hj _ hsz A _ c nl nh hc1.1 hc1.2 hc0.2 hl w
  | str =>
    have hu : P.underlying S = some .string := (hT.ty _ _ hS).und
    have e2 : a.eval x = .string z := by
      rw [e1]
      have : cs = [.string z] := Foot.now hfk
      rw [this]; rfl
    rcases numO_run h h6 with ⟨rfl, rfl⟩ | ⟨yl, nl, kl, rfl, rfl, el⟩ <;> rcases numO_run h h8 with ⟨rfl, rfl⟩ | ⟨yh, nh, kh, rfl, rfl, eh⟩
    · exact (run_fail h10).elim
    · exact (run_fail h10).elim
    · exact (run_fail h10).elim
    · simp only [sliceP] at h10
      obtain ⟨hc0, h10⟩ := run_chk h10
      obtain rfl := run_ret h10
      simp only [Bool.and_eq_true, decide_eq_true_eq] at hc0
      obtain ⟨⟨c1, c2⟩, c3, c4⟩ := hc0
      refine fin (v := .string (ByteArray.extract z nl.toNat nh.toNat)) ?_ (str_TV _ _)
      rw [sliceAt_string hu, e2]
      simp only [Option.map_some, el, eh]
      have hb1 : (Instr.sliceBound (.int kh nh) (ByteArray.size z) .sliceAlen).run P w = .ok nh.toNat w := by
        unfold Instr.sliceBound
        simp [asIntOf, c1, c2]
      have hb2 : (Instr.sliceBound (.int kl nl) nh.toNat .sliceB).run P w = .ok nl.toNat w := by
        unfold Instr.sliceBound
        have hm : max nh 0 = nh := by omega
        have h5 : nl ≤ nh := by omega
        simp [asIntOf, c3, hm, h5]
      unfold Instr.slice
      simp only [Sem.run_bind, run_underlying hu, Result.andThen_ok]
      simp [Instr.sliceBounds, hb1, hb2]
  | int k => exact (run_fail h10).elim
  | bool => exact (run_fail h10).elim
  | pair p q => exact (run_fail h10).elim

theorem op_slice_ro (hT : TabOk P T) (h : Rel F g st a w) {S d : Nat} {x : Operand} {lo hi : Option Operand} {t : Ty} {y : t.den} {m : Mk} {l1 l2 : List Nat} (ho : o.op = .slice S x lo hi none) (hd : o.dst = some d) (hn : F.slot d) (h1 : (evd T S x).run st = some (⟨t, y, m⟩, l1))
    (h2 : (Pg.chk ((idsT t m).isEmpty) ((full t y m).bind fun z => (numO lo).bind fun l => (numO hi).bind fun h => (sliceP t z l h).bind fun v => .ret (Req.wr [(kT d, some (.tv v))]))).run st = some (.wr wr, l2)) : OpOk P F o st wr a w := by
  obtain ⟨hids, h3⟩ := run_chk h2
  obtain ⟨z, l3, l4, h4, h5, _⟩ := run_bind h3
  obtain ⟨n, l5, l6, h6, h7, _⟩ := run_bind h5
  obtain ⟨k, l7, l8, h8, h9, _⟩ := run_bind h7
  obtain ⟨tv, l9, l10, h10, h11, _⟩ := run_bind h9
  have := run_ret h11
  injection this with this
  subst this
  obtain ⟨hS, cs, e1, hv⟩ := evd_TV h h1
  have hid : idsT t m = [] := by simpa using hids
  have hfk : Kd.FK t.kd w (F.ok g st) z cs := by
    refine Foot.mono (full_FK h h4 hv) ?_
    rintro k (hk | ⟨r, hr, _⟩)
    · exact hk
    · rw [hid] at hr; cases hr
  obtain ⟨v, hrun, ht⟩ := slice_core (D := dom st) (ok := F.ok g st) hT h hS e1 hfk h6 h8 h10
  exact op_value h hd hn (by simp [execOp, ho, hrun]) ht
/-- A cut of an own row, which is only read from now on. -/
theorem op_slice_fz (hT : TabOk P T) (h : Rel F g st a w) {S d : Nat} {x : Operand} {lo hi : Option Operand} {t : Ty} {y : t.den} {m : Mk} {l1 l2 : List Nat} (ho : o.op = .slice S x lo hi none) (hd : o.dst = some d) (hn : F.slot d) (h1 : (evd T S x).run st = some (⟨t, y, m⟩, l1))
    (h3 : ((full t y m).bind fun z => (numO lo).bind fun l => (numO hi).bind fun h => (sliceP t z l h).bind fun v => .ret (Req.wr ([(kT d, some (.tv v))] ++ drops (idsT t m)))).run st = some (.wr wr, l2)) : OpOk P F o st wr a w := by
  obtain ⟨z, l3, l4, h4, h5, _⟩ := run_bind h3
  obtain ⟨n, l5, l6, h6, h7, _⟩ := run_bind h5
  obtain ⟨k, l7, l8, h8, h9, _⟩ := run_bind h7
  obtain ⟨tv, l9, l10, h10, h11, _⟩ := run_bind h9
  have := run_ret h11
  injection this with this
  subst this
  obtain ⟨hS, cs, e1, hv⟩ := evd_TV h h1
  have hal := full_alive h4
  have hf := h.freeze hal
  have hfk : Kd.FK t.kd w (F.ok g (drops (idsT t m) ++ st)) z cs := Foot.mono (full_FK h h4 hv) (fun k hk => frozen_ok h hal hk)
  obtain ⟨v, hrun, ht⟩ := slice_core (D := dom (drops (idsT t m) ++ st)) (ok := F.ok g (drops (idsT t m) ++ st)) hT h hS e1 hfk h6 h8 h10
  exact op_value hf hd hn (by simp [execOp, ho, hrun]) ht
theorem op_slice_nil (hT : TabOk P T) (h : Rel F g st a w) {S d e : Nat} {t : Ty} {x : Operand} {lo hi : Option Operand} {n k : Option Int} {l1 l2 : List Nat} {cs : List Value} (ho : o.op = .slice S x lo hi none) (hd : o.dst = some d) (hn : F.slot d)
    (hS : T.ty S = some (.slice e t)) (e1 : a.eval x = .slice none 0 0) (h6 : (numO lo).run st = some (n, l1)) (h8 : (numO hi).run st = some (k, l2)) (hz : zeroO n = true) (hz' : zeroO k = true) :
    OpOk P F o st [(kT d, some (.tv (.v (.slice e t) [] .nil)))] a w := by
  obtain ⟨hu, bytes, hin, _, _, _⟩ := (hT.ty _ _ hS).und
  obtain ⟨j, hj, hjz⟩ := Option.map_eq_some_iff.1 hin
  injection hjz with hz1 hz2
  injection hz2 with hz2 hz3
  have hsz : j.size = t.kd.sz := by rw [kd_sz]; exact hz2
  have hrun : (Instr.sliceAt S (a.eval x) (lo.map a.eval) (hi.map a.eval) none).run P w = .ok (.slice none 0 0) w := by
    rw [sliceAt_slice hu, e1]
    rcases numO_run h h6 with ⟨rfl, rfl⟩ | ⟨yl, nl, kl, rfl, rfl, el⟩ <;> rcases numO_run h h8 with ⟨rfl, rfl⟩ | ⟨yh, nh, kh, rfl, rfl, eh⟩
    · exact cut_all hu hj none 0 0 w
    · have : nh = 0 := of_decide_eq_true hz'
      subst this
      simp only [Option.map_none, Option.map_some, eh]
      exact cut_to S e kh hu hj none 0 0 0 (by omega) (by omega) (by omega) w
    · have : nl = 0 := of_decide_eq_true hz
      subst this
      simp only [Option.map_none, Option.map_some, el]
      exact cut_from S e kl hu hj _ hsz none 0 0 0 (by omega) (by omega) w
    · have : nh = 0 := of_decide_eq_true hz'
      subst this
      have : nl = 0 := of_decide_eq_true hz
      subst this
      simp only [Option.map_some, el, eh]
      exact cut_mid S e kl kh hu hj _ hsz none 0 0 0 0 (by omega) (by omega) (by omega) (by omega) w
  exact op_value h hd hn (v := .slice none 0 0) (by simp [execOp, ho, hrun]) (by simp only [TVR]; exact ⟨[.slice none 0 0], rfl, by simp only [VR]⟩)
theorem op_slice_own (hT : TabOk P T) (h : Rel F g st a w) {S d e e' r : Nat} {t t' : Ty} {x hi : Operand} {n : Int} {xs : List t'.den} {l1 : List Nat} (ho : o.op = .slice S x none (some hi) none) (hd : o.dst = some d) (hn : F.slot d)
    (hS : T.ty S = some (.slice e t)) (e1 : a.eval x = g.ρ r) (h6 : (num hi).run st = some (n, l1)) (hr : get st (kR r) = some (.row e' t' xs)) (he : e = e') (ht : t = t') (h0 : 0 ≤ n) (h1 : n ≤ (xs.length : Int)) (hf : dom st (kR (rid d 0)) = false) :
    OpOk P F o st (drops [r] ++ [(kR (rid d 0), some (.row e' t' (xs.take n.toNat))), (kT d, some (.tv (.v (.slice e' t') [] (.own (rid d 0)))))]) a w := by
  subst he
  subst ht
  obtain ⟨hu, bytes, hin, _, _, _⟩ := (hT.ty _ _ hS).und
  obtain ⟨j, hj, hjz⟩ := Option.map_eq_some_iff.1 hin
  obtain ⟨kh, eh⟩ := num_TV h h6
  obtain ⟨e2, t2, xs2, q1, q2, q3⟩ := h.rows r _ hr
  cases q1
  obtain ⟨A, c, e3, hl, _⟩ := Kd.S_reads q3
  have hrun : (execOp a.eval o).run P w = .ok (.value (.slice A n.toNat c)) w := by
    have : (Instr.sliceAt S (a.eval x) (none : Option Value) (some (a.eval hi)) none).run P w = .ok (.slice A n.toNat c) w := by
      rw [sliceAt_slice hu, e1, e3, eh]
      exact cut_to S e kh hu hj A _ c n h0 h1 hl w
    simp [execOp, ho, this]
  intro ops Kc Q hw hK
  unfold Oper.wp
  rw [hrun]
  show Kc (a.put o.dst _) w
  rw [hd]
  rw [e3] at q3
  have hR := Kd.S_take q3 (m := n.toNat) (by omega)
  obtain ⟨g', hg'⟩ := h.newRow hn (e := e) (ids := [r]) (w' := w) (v1 := .slice A n.toNat c) (xs := xs.take n.toNat) (fun q hq => by rw [List.mem_singleton.1 hq]; exact ⟨_, hr⟩) hf rfl rfl rfl (Nat.le_refl _) (fun _ _ _ => rfl)
    (Kd.S_mono hR (fun k hk => .inl ⟨r, List.mem_singleton.2 rfl, hk⟩))
  exact hK g' _ _ hg'
theorem op_slice (hT : TabOk P T) (h : Rel F g st a w) {S : Nat} {x : Operand} {lo hi : Option Operand} (ho : o.op = .slice S x lo hi none) (hn : ∀ d, o.dst = some d → F.slot d) (hr : (opEff T G o).run st = some (.wr wr, l)) : OpOk P F o st wr a w := by
  unfold opEff at hr
  rw [ho] at hr
  simp only at hr
  cases hd : o.dst with
  | none => rw [hd] at hr; exact (run_fail hr).elim
  | some d =>
    rw [hd] at hr
    obtain ⟨⟨t, y, m⟩, l1, l2, h1, h2, _⟩ := run_bind hr
    dsimp only at h2
    unfold sliceM at h2
    split at h2
    · obtain ⟨n, l5, l6, h6, h7, _⟩ := run_bind h2
      obtain ⟨k, l7, l8, h8, h9, _⟩ := run_bind h7
      obtain ⟨hz, h10⟩ := run_chk h9
      have := run_ret h10
      injection this with this
      subst this
      rw [Bool.and_eq_true] at hz
      obtain ⟨hS, cs, e1, hv⟩ := evd_TV h h1
      simp only [VR] at hv
      exact op_slice_nil (cs := cs) hT h ho hd (hn d hd) hS (by rw [e1, hv]; rfl) h6 h8 hz.1 hz.2
    · split at h2
      · obtain ⟨n, l5, l6, h6, h7, _⟩ := run_bind h2
        obtain ⟨u, l7, h8, h9, _⟩ := run_rd h7
        split at h9
        · obtain ⟨hz, h10⟩ := run_chk h9
          obtain ⟨hz2, h11⟩ := run_chk h10
          obtain ⟨l9, hf, h12, _⟩ := run_fresh h11
          have := run_ret h12
          injection this with this
          subst this
          simp only [Bool.and_eq_true, decide_eq_true_eq] at hz hz2
          obtain ⟨hS, cs, e1, hv⟩ := evd_TV h h1
          simp only [VR] at hv
          exact op_slice_own hT h ho hd (hn d hd) hS (by rw [e1, hv.1]; rfl) h6 h8 (Nat.eq_of_beq_eq_true hz.1) (Ty.eq_of_beq hz.2) hz2.1 hz2.2 hf
        · exact (run_fail h9).elim
      · exact op_slice_fz hT h ho hd (hn d hd) h1 h2
    · rename_i t m y _ _
      exact op_slice_ro hT h ho hd (hn d hd) h1 h2
theorem bytes_cap (w : World) (e : TypeId) (s : ByteArray) : s.size ≤ grownCap w s.size 0 e := by
  unfold grownCap
  show s.size ≤ s.size + _ % _
  exact Nat.le_add_right _ _
theorem caps_TV (h : Rel F g st a w) : ∀ {xs : List Operand} {ts : List TV} {l : List Nat}, (opEff.capsT xs).run st = some (ts, l) → TVRs g (dom st) w (F.ok g st) ts (xs.map a.eval)
  | [], ts, l, hr => by obtain rfl := run_ret hr; simp only [TVRs]; rfl
  | x :: xs, ts, l, hr => by
    obtain ⟨v, l1, l2, h1, h2, _⟩ := run_bind hr
    obtain ⟨vs, l3, l4, h3, h4, _⟩ := run_bind h2
    obtain rfl := run_ret h4
    simp only [TVRs, List.map_cons]
    exact ⟨_, _, rfl, ev_TV h h1, caps_TV h h3⟩
theorem op_makeFunc (h : Rel F g st a w) {f : Nat} {first caps : Array Operand} (ho : o.op = .makeFunc (.func f) first caps) (hn : ∀ d, o.dst = some d → F.slot d) (hr : (opEff T G o).run st = some (.wr wr, l)) : OpOk P F o st wr a w := by
  unfold opEff at hr
  rw [ho] at hr
  simp only at hr
  split at hr
  · rename_i d hd hfi
    obtain ⟨ts, l1, l2, h1, h2, _⟩ := run_bind hr
    have := run_ret h2
    injection this with this
    subst this
    have hf : first = #[] := by rw [← Array.toArray_toList (xs := first), hfi]
    refine op_value h hd (hn d hd) (v := .func (.func f) #[] (caps.toList.map a.eval).toArray) ?_ (by simp only [TVR]; exact ⟨_, rfl, caps_TV h h1⟩)
    subst hf
    simp [execOp, ho, Instr.makeFunc]
    rw [← Array.toList_map]
  · exact (run_fail hr).elim
theorem op_convert (hT : TabOk P T) (h : Rel F g st a w) {S Dt : Nat} {x : Operand} (ho : o.op = .convert S Dt x) (hn : ∀ d, o.dst = some d → F.slot d) (hr : (opEff T G o).run st = some (.wr wr, l)) : OpOk P F o st wr a w := by
  unfold opEff at hr
  rw [ho] at hr
  simp only at hr
  split at hr
  · rename_i d k0 k hd hS hD
    obtain ⟨u, l1, l2, h1, h2, _⟩ := run_bind hr
    have hu := ev_TV h h1
    split at h2
    · have := run_ret h2
      injection this with this
      subst this
      have e1 := TV_int hu
      have hs : P.underlying S = some (.int k0) := (hT.ty _ _ hS).und
      have hd' : P.underlying Dt = some (.int k) := (hT.ty _ _ hD).und
      refine op_value h hd (hn d hd) (v := .int k (k.wrap _)) ?_ (int_TV _ _ _)
      simp [execOp, ho, e1, convert, run_underlying hs, run_underlying hd', Conv.intToInt]
    · exact (run_fail h2).elim
  · rename_i d e hd hS hD
    obtain ⟨u, l1, l2, h1, h2, _⟩ := run_bind hr
    have hu := ev_TV h h1
    split at h2
    · rename_i s m
      obtain ⟨hsz, h3⟩ := run_chk h2
      have := run_ret h3
      injection this with this
      subst this
      have e1 := TV_str hu
      have hs : P.underlying S = some .string := (hT.ty _ _ hS).und
      obtain ⟨hd', _, _, _, _, hk⟩ := (hT.ty _ _ hD).und
      have he : P.underlying e = some (.int .u8) := hk _ rfl
      have hsz' : s.size ≤ 549755813888 := by
        have := of_decide_eq_true hsz
        have h2 : (ByteArray.size s : Int) ≤ 549755813888 := this
        omega
      intro ops Kc Q hw hK
      have hrun : (execOp a.eval o).run P w = .ok (.value (.slice (some ⟨w.heap.size, 0, none⟩) s.size (grownCap w s.size 0 e))) (Lib.bytesWorld w e s) := by
        simp [execOp, ho, e1, print_bytes S Dt e hs hd' he s w]
      unfold Oper.wp
      rw [hrun]
      show Kc (a.put o.dst _) _
      rw [hd]
      have hr := bytes_reads w e s (by omega)
      have hbl := bytes_below (Below.refl w.heap.size w) (Nat.le_refl _) e s
      refine hK g _ _ (h.putExt (hn d hd) hbl ?_)
      simp only [TVR]
      refine ⟨[.slice (some ⟨w.heap.size, 0, none⟩) s.size (grownCap w s.size 0 e)], rfl, VR_no.2 ?_⟩
      have hlen : (bytesOf s).length = s.size := bytesOf_length s
      refine slice_FK (t := .int .u8) hlen (bytes_cap w e s) ?_
      have hnm : F.ok g st w.heap.size := ⟨.inr (.inl h.grow), fun hm => by have := h.mutLt hm; omega⟩
      intro W' hW
      refine ⟨rfl, by rw [hlen]; omega, fun hp => ⟨_, rfl, fun j p hj => ⟨[.int .u8 p], rfl, rfl, fun i u hu => ?_⟩⟩⟩
      have hi : i = 0 := by
        have := (List.getElem?_eq_some_iff.1 hu).1
        simpa using this
      subst hi
      simp at hu
      subst hu
      have hjl := (List.getElem?_eq_some_iff.1 hj).1
      obtain ⟨ad, e5, hc⟩ := hr.2.2 (by omega)
      injection e5 with e5
      subst e5
      have h6 := hc j (by omega)
      have hsz2 : (Kd.int .u8).sz = 1 := rfl
      have h7 : j * (Ty.int .u8).kd.sz + 0 = j := by show j * 1 + 0 = j; omega
      rw [h7]
      have h8 : W'.cell? ((⟨w.heap.size, 0, none⟩ : Addr).add j) = (Lib.bytesWorld w e s).cell? ((⟨w.heap.size, 0, none⟩ : Addr).add j) := by
        refine World.cell?_of_block ?_
        rw [Addr.add_mid]
        refine hW _ hnm ?_
        have := World.block_lt_of_cell? _ _ h6
        rw [Addr.add_mid] at this
        exact this
      rw [h8, h6]
      rw [List.getD_eq_getElem?_getD, hj]
      rfl
    · exact (run_fail h2).elim
  · rename_i d e hd hS hD
    obtain ⟨⟨t, y, m⟩, l1, l2, h1, h2, _⟩ := run_bind hr
    obtain ⟨z, l3, l4, h3, h4, _⟩ := run_bind h2
    obtain ⟨ht, cs, e1, hv⟩ := evd_TV h h1
    rw [hS] at ht
    injection ht with ht
    subst ht
    split at h4
    · rename_i xs hx
      obtain ⟨q1, q2⟩ := cast_some hx
      cases q2
      have := run_ret h4
      injection this with this
      subst this
      obtain ⟨hs, _, _, _, _, hk⟩ := (hT.ty _ _ hS).und
      have he : P.underlying e = some (.int .u8) := hk _ rfl
      have hd' : P.underlying Dt = some .string := (hT.ty _ _ hD).und
      obtain ⟨A, c, e2, hl, hC⟩ := FK_slice (full_FK h h3 hv)
      refine op_value h hd (hn d hd) (v := .string (strOfNums z)) ?_ (str_TV _ _)
      have e3 : a.eval x = .slice A (List.length (α := Int) z) c := by rw [e1, e2]; rfl
      have := Kd.C_string (P := P) (w := w) hs he hd' (c := c) (hC.now)
      simp [execOp, ho, e3, this]
    · exact (run_fail h4).elim
  · exact (run_fail hr).elim
end
end Go.Proofs.YtcmjbplnjjdcdaaGreat.Ref
