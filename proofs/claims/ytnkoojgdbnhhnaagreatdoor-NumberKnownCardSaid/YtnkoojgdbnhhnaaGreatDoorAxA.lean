import GoSem.Dispatch
import GoSem.Machine.Return
import Derived.Below
import Derived.Laws.IdiomCopy
import Derived.Laws.CopyRow
import Derived.Orders
set_option linter.unusedVariables false
namespace Go.Ax
open Go
noncomputable section

/-! ### trees -/
inductive T (α : Type) where
  | e
  | n (v : Option α) (l r : T α)

namespace T
variable {α : Type}
def get (t : T α) : Nat → Option α :=
  T.rec (motive := fun _ => Nat → Option α) (fun _ => none)
    (fun v _ _ gl gr i => Nat.rec (motive := fun _ => Option α) v (fun k _ => Nat.rec (motive := fun _ => Option α) (gl (Nat.div k 2)) (fun _ _ => gr (Nat.div k 2)) (Nat.mod k 2)) i) t
def putF (f : Nat) : T α → Nat → Option α → T α :=
  Nat.rec (motive := fun _ => T α → Nat → Option α → T α) (fun t _ _ => t)
    (fun _ rec t i x => T.rec (motive := fun _ => T α)
      (Nat.rec (motive := fun _ => T α) (.n x .e .e) (fun k _ => Nat.rec (motive := fun _ => T α) (.n none (rec .e (Nat.div k 2) x) .e) (fun _ _ => .n none .e (rec .e (Nat.div k 2) x)) (Nat.mod k 2)) i)
      (fun v l r _ _ => Nat.rec (motive := fun _ => T α) (.n x l r) (fun k _ => Nat.rec (motive := fun _ => T α) (.n v (rec l (Nat.div k 2) x) r) (fun _ _ => .n v l (rec r (Nat.div k 2) x)) (Nat.mod k 2)) i) t) f
def put (t : T α) (i : Nat) (x : α) : T α := putF (Nat.succ i) t i (some x)
def del (t : T α) (i : Nat) : T α := putF (Nat.succ i) t i none
end T

/-! ### abstract values -/
inductive AV where
  | lit (v : Value)
  | ptr (b off : Nat)
  | sl (b off len cap esz : Nat) (exact : Bool)
  | fn (f : Fn) (first captured : List AV)
  | yld (b : Nat)
  | agg (cs : List AV)
  | tup (cs : List AV)
  | map (b : Nat)
  | sl0

def ofV : Value → AV
  | .agg cs => .agg (cs.toList.map .lit)
  | .tuple cs => .tup (cs.toList.map .lit)
  | v => .lit v

mutual
def litOf : AV → Option Value
  | .lit v => some v
  | .agg cs => match litsOf cs with | some l => some (.agg l.toArray) | none => none
  | .tup cs => match litsOf cs with | some l => some (.tuple l.toArray) | none => none
  | _ => none
def litsOf : List AV → Option (List Value)
  | [] => some []
  | a :: l => match litOf a, litsOf l with
    | some v, some vs => some (v :: vs)
    | _, _ => none
end

def AV.cells : AV → List AV
  | .agg cs => cs
  | .lit (.agg cs) => cs.toList.map .lit
  | v => [v]

/-- may it stand in one cell? -/
def AV.isCell : AV → Bool
  | .agg _ | .tup _ => false
  | .lit (.agg _) | .lit (.tuple _) => false
  | _ => true

def litSame : Value → Value → Bool
  | .bool a, .bool b => a == b
  | .int j a, .int k b => decide (j = k) && a == b
  | .string a, .string b => decide (a.data.toList = b.data.toList)
  | .pointer none, .pointer none => true
  | .slice none a b, .slice none c d => a == c && b == d
  | .map none, .map none => true
  | .nilFunc, .nilFunc => true
  | .nilIface, .nilIface => true
  | _, _ => false
mutual
def AV.same : AV → AV → Bool
  | .lit a, .lit b => litSame a b
  | .ptr b o, .ptr c p => b == c && o == p
  | .sl b o l c e x, .sl b' o' l' c' e' x' => b == b' && o == o' && l == l' && c == c' && e == e' && x == x'
  | .fn f x y, .fn g x' y' => decide (f = g) && sames x x' && sames y y'
  | .yld b, .yld c => b == c
  | .agg x, .agg y => sames x y
  | .tup x, .tup y => sames x y
  | .map b, .map c => b == c
  | .sl0, .sl0 => true
  | _, _ => false
def sames : List AV → List AV → Bool
  | [], [] => true
  | a :: l, b :: m => AV.same a b && sames l m
  | _, _ => false
end

/-! ### abstract blocks -/
inductive AO where
  | cells (c : T AV) (n : Nat) (elem : TypeId) (ro : Bool)
  | loop (st : LoopState) (pending : Option Code) (tmps : T AV) (nt : Nat) (params : Array Tmp) (assign body : Code) (defers : Nat)
  | dfr
  | map (es : List (Value × AV × Nat)) (clock : Nat)
  | iter (s : ByteArray) (pos : Nat)

abbrev H := T AO

def sev (P : Program) {α : Type} : Sem α → Option α
  | .pure a => some a
  | .program k => sev P (k P)
  | .mark _ k => sev P k
  | _ => none

/-! ### integers, quickly -/
def lim : IntKind → Nat
  | .i8 => 128 | .i16 => 32768 | .i32 => 2147483648 | .i64 => 9223372036854775808
  | .u8 => 256 | .u16 => 65536 | .u32 => 4294967296 | .u64 => 18446744073709551616
def full : IntKind → Nat
  | .i8 => 256 | .i16 => 65536 | .i32 => 4294967296 | .i64 => 18446744073709551616
  | .u8 => 256 | .u16 => 65536 | .u32 => 4294967296 | .u64 => 18446744073709551616
def wrapN (k : IntKind) (m : Nat) : Int :=
  match Nat.blt m (lim k) with
  | true => .ofNat m
  | false => match Nat.blt (Nat.mod m (full k)) (lim k) with
    | true => .ofNat (Nat.mod m (full k))
    | false => .negSucc (Nat.sub (Nat.sub (full k) (Nat.mod m (full k))) 1)
def wrapF (k : IntKind) : Int → Int
  | .ofNat m => wrapN k m
  | .negSucc m => match Nat.beq (lim k) (full k), Nat.blt m (lim k) with
    | false, true => .negSucc m
    | _, _ => k.wrap (.negSucc m)
def ltI : Int → Int → Bool
  | .ofNat a, .ofNat b => Nat.blt a b
  | .negSucc _, .ofNat _ => true
  | .ofNat _, .negSucc _ => false
  | .negSucc a, .negSucc b => Nat.blt b a
def eqI : Int → Int → Bool
  | .ofNat a, .ofNat b => Nat.beq a b
  | .negSucc a, .negSucc b => Nat.beq a b
  | _, _ => false
/-- an operation on two integers of one kind; none: not told here -/
def intFast (op : BinOp) (k : IntKind) (a b : Int) : Option Value :=
  match op with
  | .add => some (.int k (wrapF k (Int.add a b)))
  | .sub => some (.int k (wrapF k (Int.sub a b)))
  | .mul => some (.int k (wrapF k (Int.mul a b)))
  | .eql => some (.bool (eqI a b))
  | .neq => some (.bool (Bool.not (eqI a b)))
  | .lss => some (.bool (ltI a b))
  | .leq => some (.bool (Bool.not (ltI b a)))
  | .gtr => some (.bool (ltI b a))
  | .geq => some (.bool (Bool.not (ltI a b)))
  | .quo => match a, b with
    | .ofNat x, .ofNat (.succ y) => some (.int k (wrapN k (Nat.div x (.succ y))))
    | _, _ => none
  | .rem => match a, b with
    | .ofNat x, .ofNat (.succ y) => some (.int k (.ofNat (Nat.mod x (.succ y))))
    | _, _ => none
  | .and => match a, b with
    | .ofNat x, .ofNat y => match Nat.blt x (lim k), Nat.blt y (lim k) with
      | true, true => some (.int k (.ofNat (Nat.land x y)))
      | _, _ => none
    | _, _ => none
  | .or => match a, b with
    | .ofNat x, .ofNat y => match Nat.blt x (lim k), Nat.blt y (lim k) with
      | true, true => some (.int k (.ofNat (Nat.lor x y)))
      | _, _ => none
    | _, _ => none
  | _ => none
def shFast (op : BinOp) (k : IntKind) (a b : Int) : Option Value :=
  match op, a, b with
  | .shl, .ofNat x, .ofNat n => match Nat.ble n k.bits with
    | true => some (.int k (wrapN k (Nat.mul x (Nat.pow 2 n))))
    | false => none
  | .shr, .ofNat x, .ofNat n => match Nat.ble n k.bits with
    | true => some (.int k (.ofNat (Nat.div x (Nat.pow 2 n))))
    | false => none
  | _, _, _ => none

/-! ### types -/
def szT (P : Program) (t : TypeId) : Option Nat := match P.info? t with | some i => some i.size | none => none
def bytesT (P : Program) (t : TypeId) : Option Nat := match P.info? t with | some i => some i.bytes | none => none
def isAggT (P : Program) (t : TypeId) : Option Bool := match P.underlying t with
  | some (.struct _) | some (.array _ _) => some true
  | some _ => some false
  | none => none
def zeroT (P : Program) (t : TypeId) : Option AV := match P.info? t with
  | some i => match i.zero with | some v => some (ofV v) | none => none
  | none => none

def rdCells (c : T AV) : Nat → Nat → Option (List AV)
  | _, 0 => some []
  | i, n + 1 => match c.get i with
    | some v => match rdCells c (Nat.succ i) n with
      | some l => some (v :: l)
      | none => none
    | none => none
def wrCells (c : T AV) : Nat → List AV → T AV
  | _, [] => c
  | i, v :: l => wrCells (c.put i v) (Nat.succ i) l

def aloadAgg (P : Program) (c : T AV) (n : Nat) (t : TypeId) (off : Nat) : Option AV :=
  match szT P t with
  | some s => match Nat.ble (Nat.add off s) n with
    | true => match rdCells c off s with
      | some l => some (.agg l)
      | none => none
    | false => none
  | none => none
def aload1 (c : T AV) (n off : Nat) : Option AV := match Nat.blt off n with
  | true => c.get off
  | false => none
def aload (P : Program) (h : H) (t : TypeId) (b off : Nat) : Option AV :=
  match h.get b with
  | some (.cells c n _ _) => match isAggT P t with
    | some true => aloadAgg P c n t off
    | some false => aload1 c n off
    | none => none
  | _ => none

def allCell : List AV → Bool
  | [] => true
  | a :: l => match a.isCell with
    | true => allCell l
    | false => false

def astoreCells (h : H) (b off : Nat) (l : List AV) : Option H :=
  match h.get b with
  | some (.cells c n el false) => match Nat.ble (Nat.add off l.length) n with
    | true => match allCell l with
      | true => some (h.put b (.cells (wrCells c off l) n el false))
      | false => none
    | false => none
  | _ => none

def astore (P : Program) (h : H) (t : TypeId) (b off : Nat) (v : AV) : Option H :=
  match szT P t with
  | some s => match Nat.beq v.cells.length s with
    | true => astoreCells h b off v.cells
    | false => none
  | none => none

structure Cfg where
  P : Program
  gl : Nat → Bool
  esc : Nat

abbrev Env := Operand → Option AV

/-- an operand, told once -/
inductive Opd where
  | tmp (t : Nat)
  | val (v : Option AV)
def opdOf (C : Cfg) : Operand → Opd
  | .tmp t => .tmp t
  | .const v => .val (some (ofV v))
  | .global g => .val (match C.gl g with
    | true => some (.ptr g 0)
    | false => none)
  | .func f => .val (some (.fn (.func f) [] []))
def env (C : Cfg) (look : Nat → AV) (x : Operand) : Option AV := match opdOf C x with
  | .tmp t => some (look t)
  | .val v => v

def evs (ρ : Env) : List Operand → Option (List AV)
  | [] => some []
  | x :: l => match ρ x with
    | some v => match evs ρ l with
      | some vs => some (v :: vs)
      | none => none
    | none => none

def litD (ρ : Env) (x : Operand) : Value := match ρ x with
  | some v => (litOf v).getD (.tuple #[])
  | none => .tuple #[]
def nextVal : Option Next → Option AV
  | some (.value v) => some (ofV v)
  | _ => none
/-- an operation on values without addresses, by the model's own words -/
def pureLit (C : Cfg) (ρ : Env) (o : Oper) : Option AV :=
  match o.op with
  | .select .. => none
  | _ => match evs ρ o.op.operands.toList with
    | none => none
    | some vs => match litsOf vs with
      | none => none
      | some _ => nextVal (sev C.P (execOp (litD ρ) o))

def lenOfAV : AV → Option Nat
  | .sl _ _ n _ _ _ => some n
  | .sl0 => some 0
  | .lit (.slice none n _) => some n
  | .lit (.string s) => some s.size
  | _ => none

def fillA (place : Nat → Option (Nat × Nat)) (cells : List AV) : List (Nat × AV) → Option (List AV)
  | [] => some cells
  | (i, v) :: rest =>
    match place i with
    | none => none
    | some (off, size) =>
      if v.cells.length ≠ size || off + v.cells.length > cells.length then none
      else fillA place (cells.take off ++ v.cells ++ cells.drop (off + v.cells.length)) rest

def evParts (ρ : Env) : List (Nat × Operand) → Option (List (Nat × AV))
  | [] => some []
  | (i, x) :: l => match ρ x, evParts ρ l with
    | some v, some vs => some ((i, v) :: vs)
    | _, _ => none

def placesOf (P : Program) : List Field → Option (List (Nat × Nat))
  | [] => some []
  | f :: l => match szT P f.type, placesOf P l with
    | some s, some r => some ((f.offset, s) :: r)
    | _, _ => none

def mkAgg : Option (List AV) → Option AV
  | some cs => some (.agg cs)
  | none => none
def abuild (C : Cfg) (t : TypeId) (parts : List (Nat × AV)) : Option AV :=
  match zeroT C.P t with
  | none => none
  | some z => match C.P.underlying t with
    | some (.struct fields) => match placesOf C.P fields.toList with
      | some pl => mkAgg (fillA (pl[·]?) z.cells parts)
      | none => none
    | some (.array _ elem) => match szT C.P elem with
      | some s => mkAgg (fillA (fun i => some (i * s, s)) z.cells parts)
      | none => none
    | _ => none

def apart (P : Program) (t : TypeId) (cs : List AV) (off : Nat) : Option AV :=
  match isAggT P t with
  | some true => match szT P t with
    | some s => if off + s ≤ cs.length then some (.agg ((cs.drop off).take s)) else none
    | none => none
  | some false => cs[off]?
  | none => none

def natOf : AV → Option Nat
  | .lit (.int _ (.ofNat n)) => some n
  | _ => none
def bound (x : Option AV) (d : Nat) : Option Nat := match x with
  | none => some d
  | some v => natOf v

def optEv (ρ : Env) : Option Operand → Option (Option AV)
  | none => some none
  | some x => match ρ x with | some v => some (some v) | none => none

def sliceFull (b off cap s l h m : Nat) : Option AV :=
  if l ≤ h ∧ h ≤ m ∧ m ≤ cap then some (.sl b (if m = l then off else off + l * s) (h - l) (m - l) s true) else none
def slice3 (b off len cap s : Nat) (lo hi mx : Option AV) : Option AV :=
  match mx, hi with
  | some m, some hh => match natOf m, natOf hh, bound lo 0 with
    | some m, some h, some l => sliceFull b off cap s l h m
    | _, _, _ => none
  | _, _ => none
def slice2 (b off len cap s : Nat) (exact : Bool) (lo hi : Option AV) : Option AV :=
  match bound hi len, bound lo 0 with
  | some h, some l => if l ≤ h ∧ h ≤ cap then
      (if cap = l then (if exact then some (.sl b off 0 0 s true) else some .sl0)
       else some (.sl b (off + l * s) (h - l) (cap - l) s exact)) else none
  | _, _ => none
def sliceSl (C : Cfg) (elem : TypeId) (b off len cap esz : Nat) (exact : Bool) (lo hi mx : Option AV) : Option AV :=
  match szT C.P elem with
  | some s => match Nat.beq s esz with
    | true => match mx with
      | none => slice2 b off len cap s exact lo hi
      | some _ => slice3 b off len cap s lo hi mx
    | false => none
  | none => none
def sliceArr (C : Cfg) (h : H) (n : Nat) (elem : TypeId) (b off : Nat) (lo hi mx : Option AV) : Option AV :=
  match szT C.P elem, h.get b, mx with
  | some s, some (.cells _ cn _ _), none =>
    if off + n * s ≤ cn then
      match bound hi n, bound lo 0 with
      | some hh, some l => sliceFull b off n s l hh n
      | _, _ => none
    else none
  | _, _, _ => none
def aslice (C : Cfg) (h : H) (t : TypeId) (x : AV) (lo hi mx : Option AV) : Option AV :=
  match C.P.underlying t, x with
  | some (.slice elem), .sl b off len cap esz exact => sliceSl C elem b off len cap esz exact lo hi mx
  | some (.slice elem), .sl0 =>
    match szT C.P elem, mx, bound hi 0, bound lo 0 with
    | some _, none, some 0, some 0 => some .sl0
    | _, _, _, _ => none
  | some (.array n elem), .ptr b off => sliceArr C h n elem b off lo hi mx
  | _, _ => none

def byteList : List AV → Option (List UInt8)
  | [] => some []
  | .lit (.int .u8 n) :: l => match byteList l with | some r => some (UInt8.ofNat n.toNat :: r) | none => none
  | _ => none
def mkStr : Option (List UInt8) → Option AV
  | some bs => some (.lit (.string ⟨bs.toArray⟩))
  | none => none

def findK (C : Cfg) (kt : TypeId) (k : Value) (es : List (Value × AV × Nat)) : Option (Option Nat) :=
  match sev C.P (Instr.findKey kt k (es.map fun e => { key := e.1, val := .tuple #[], born := 0 })) with
  | some (some (i, _)) => some (some i)
  | some none => some none
  | none => none

/-! ### operations that neither write nor make memory -/
def fPick (c : Option AV) (a b : Option AV) : Option AV := match c with
  | some (.lit (.bool true)) => a
  | some (.lit (.bool false)) => b
  | _ => none
def fBuild (C : Cfg) (t : TypeId) (ps : Option (List (Nat × AV))) : Option AV := match ps with
  | some ps => abuild C t ps
  | none => none
def fLoad (C : Cfg) (h : H) (t : TypeId) : Option AV → Option AV
  | some (.ptr b off) => aload C.P h t b off
  | _ => none
def fNil : Option AV → Option AV
  | some (.ptr b off) => some (.ptr b off)
  | some (.fn (.func f) l c) => some (.fn (.func f) l c)
  | some (.yld b) => some (.yld b)
  | _ => none
def fMake (fn : Fn) (l c : Option (List AV)) : Option AV := match l, c with
  | some l, some c => some (.fn fn l c)
  | _, _ => none
def fSlice (C : Cfg) (ρ : Env) (h : H) (o : Oper) (t : TypeId) (x : Option AV) (lo hi mx : Option Operand) : Option AV := match x with
  | some (.lit _) => pureLit C ρ o
  | some v => match optEv ρ lo, optEv ρ hi, optEv ρ mx with
    | some lo, some hi, some mx => aslice C h t v lo hi mx
    | _, _, _ => none
  | none => none
def offOf (C : Cfg) (f : Nat) (t : TypeId) : Option Nat := match C.P.underlying t with
  | some (.struct fields) => match fields[f]? with
    | some fd => match szT C.P fd.type with
      | some (_ + 1) => some fd.offset
      | _ => none
    | none => none
  | _ => none
def fFieldAddr (x : Option AV) : Option Nat → Option AV
  | some d => match x with
    | some (.ptr b off) => some (.ptr b (Nat.add off d))
    | _ => none
  | none => none
def fField1 (C : Cfg) (t : TypeId) (f : Nat) (cs : List AV) : Option AV := match C.P.underlying t with
  | some (.struct fields) => match fields[f]? with
    | some fd => apart C.P fd.type cs fd.offset
    | none => none
  | _ => none
def fField (C : Cfg) (t : TypeId) (f : Nat) : Option AV → Option AV
  | some (.agg cs) => fField1 C t f cs
  | _ => none
def idx (b off len : Nat) (n : Nat) : Option Nat → Option AV
  | some s => match Nat.blt n len with
    | true => some (.ptr b (Nat.add off (Nat.mul n s)))
    | false => none
  | none => none
def fIndexAddr (C : Cfg) (t : TypeId) (x i : Option AV) : Option AV := match x, i with
  | some (.sl b off len _ _ _), some (.lit (.int _ (.ofNat n))) => match C.P.underlying t with
    | some (.slice elem) => idx b off len n (szT C.P elem)
    | _ => none
  | some (.ptr b off), some (.lit (.int _ (.ofNat n))) => match C.P.underlying t with
    | some (.array len elem) => idx b off len n (szT C.P elem)
    | _ => none
  | _, _ => none
def fIndex (C : Cfg) (ρ : Env) (o : Oper) (t : TypeId) (x i : Option AV) : Option AV := match x, i with
  | some (.agg cs), some (.lit (.int _ (.ofNat n))) => match C.P.underlying t with
    | some (.array len elem) => match szT C.P elem with
      | some s => match Nat.blt n len with
        | true => apart C.P elem cs (n * s)
        | false => none
      | none => none
    | _ => none
  | some (.lit _), _ => pureLit C ρ o
  | _, _ => none
def hit (ok : Bool) (v : AV) (b : Bool) : AV := match ok with
  | true => .tup [v, .lit (.bool b)]
  | false => v
def mapLook (C : Cfg) (ok : Bool) (kt et : TypeId) (es : List (Value × AV × Nat)) (k : Value) : Option AV :=
  match sev C.P (Instr.checkKey es.isEmpty 10000 kt k) with
  | some _ => match findK C kt k es with
    | some (some i) => match es[i]? with
      | some e => some (hit ok e.2.1 true)
      | none => none
    | some none => match zeroT C.P et with
      | some z => some (hit ok z false)
      | none => none
    | none => none
  | none => none
def fLookup (C : Cfg) (h : H) (t : TypeId) (x i : Option AV) (ok : Bool) : Option AV := match x, i, C.P.underlying t with
  | some (.map b), some k, some (.map kt et) => match h.get b, litOf k with
    | some (.map es _), some k => mapLook C ok kt et es k
    | _, _ => none
  | _, _, _ => none
def fExtract (i : Nat) : Option AV → Option AV
  | some (.tup cs) => cs[i]?
  | _ => none
def convPtr (C : Cfg) (h : H) (src dst : TypeId) (b off : Nat) : Option AV := match C.P.underlying src, C.P.underlying dst, h.get b with
  | some (.pointer t), some .unsafePointer, some (.cells _ n _ _) => match szT C.P t with
    | some (_ + 1) => if off < n then some (.ptr b off) else none
    | _ => none
  | some .unsafePointer, some (.pointer u), some (.cells _ n el _) => match szT C.P u with
    | some (_ + 1) => if liesAt C.P C.P.depth el (n / C.P.cellsOf el) off u 1 then some (.ptr b off) else none
    | _ => none
  | _, _, _ => none
def convStr (C : Cfg) (h : H) (src dst : TypeId) (b off len : Nat) : Option AV := match C.P.underlying src, C.P.underlying dst with
  | some (.slice e), some .string => match C.P.underlying e, h.get b with
    | some (.int .u8), some (.cells c n _ _) => if off + len ≤ n then match rdCells c off len with
        | some l => mkStr (byteList l)
        | none => none
      else none
    | _, _ => none
  | _, _ => none
def fConvert (C : Cfg) (ρ : Env) (h : H) (o : Oper) (src dst : TypeId) : Option AV → Option AV
  | some (.lit (.int k n)) => match C.P.underlying src, C.P.underlying dst with
    | some _, some (.int k') => some (.lit (.int k' (wrapF k' n)))
    | _, _ => pureLit C ρ o
  | some (.lit _) => pureLit C ρ o
  | some (.ptr b off) => convPtr C h src dst b off
  | some (.sl b off len _ _ _) => convStr C h src dst b off len
  | _ => none
def ptrCmp (C : Cfg) (op : BinOp) (t : TypeId) (same : Bool) : Option AV := match C.P.underlying t with
  | some (.pointer el) => match szT C.P el with
    | some (_ + 1) => match op with
      | .eql => some (.lit (.bool same))
      | .neq => some (.lit (.bool (!same)))
      | _ => none
    | _ => none
  | _ => none
/-- what is no nil value held against nil -/
def nilKind : AV → Value → TypeDesc → Bool
  | .ptr .., .pointer none, .pointer _ => true
  | .sl .., .slice none _ _, .slice _ => true
  | .sl0, .slice none _ _, .slice _ => true
  | .map .., .map none, .map _ _ => true
  | .fn .., .nilFunc, .func _ _ _ => true
  | .yld .., .nilFunc, .func _ _ _ => true
  | _, _, _ => false
def nilCmp (C : Cfg) (op : BinOp) (t : TypeId) (a : AV) (v : Value) : Option AV := match C.P.underlying t with
  | some d => match nilKind a v d with
    | true => match op with
      | .eql => some (.lit (.bool false))
      | .neq => some (.lit (.bool true))
      | _ => none
    | false => none
  | none => none
def intBin (C : Cfg) (ρ : Env) (o : Oper) (op : BinOp) (j k : IntKind) (a b : Int) : Option AV :=
  match op with
  | .shl | .shr => match shFast op j a b with
    | some v => some (.lit v)
    | none => pureLit C ρ o
  | _ => match decide (j = k) with
    | true => match intFast op j a b with
      | some v => some (.lit v)
      | none => pureLit C ρ o
    | false => none
def fBin (C : Cfg) (ρ : Env) (o : Oper) (op : BinOp) (t : TypeId) (x y : Option AV) : Option AV := match x, y with
  | some (.lit (.int j a)), some (.lit (.int k b)) => intBin C ρ o op j k a b
  | some (.lit _), some (.lit _) => pureLit C ρ o
  | some (.ptr b p), some (.ptr b' q) => match Nat.beq b b' with
    | true => ptrCmp C op t (Nat.beq p q)
    | false => none
  | some a, some (.lit v) => nilCmp C op t a v
  | some _, some _ => pureLit C ρ o
  | _, _ => none
def fLen (C : Cfg) (ρ : Env) (h : H) (o : Oper) (t : Option TypeId) : Option (List AV) → Option AV
  | some [.sl _ _ n _ _ _] => match t with
    | some t => match C.P.underlying t with
      | some (.slice _) => some (.lit (.int .i64 (.ofNat n)))
      | _ => none
    | none => none
  | some [.sl0] => match t with
    | some t => match C.P.underlying t with
      | some (.slice _) => some (.lit (.int .i64 0))
      | _ => none
    | none => none
  | some [.map b] => match t with
    | some t => match C.P.underlying t, h.get b with
      | some (.map _ _), some (.map es _) => some (.lit (.int .i64 (.ofNat es.length)))
      | _, _ => none
    | none => none
  | some _ => pureLit C ρ o
  | none => none
def fCap (C : Cfg) (ρ : Env) (o : Oper) (t : Option TypeId) : Option (List AV) → Option AV
  | some [.sl _ _ _ n _ true] => match t with
    | some t => match C.P.underlying t with
      | some (.slice _) => some (.lit (.int .i64 (.ofNat n)))
      | _ => none
    | none => none
  | some _ => pureLit C ρ o
  | none => none
def fData (C : Cfg) (ρ : Env) (o : Oper) : Option (List AV) → Option AV
  | some [.sl b off _ (_ + 1) _ _] => some (.ptr b off)
  | some _ => pureLit C ρ o
  | none => none
def fCall (C : Cfg) (ρ : Env) (h : H) (o : Oper) (c : Call) : Option AV := match c.callee with
  | .builtin b => match b with
    | .len => fLen C ρ h o c.argTypes[0]? (evs ρ c.args.toList)
    | .cap => fCap C ρ o c.argTypes[0]? (evs ρ c.args.toList)
    | .min | .max | .unsafeString => pureLit C ρ o
    | .unsafeSliceData => fData C ρ o (evs ρ c.args.toList)
    | _ => none
  | _ => none
def fUn (C : Cfg) (ρ : Env) (o : Oper) (op : UnOp) : Option AV → Option AV
  | some (.lit (.bool b)) => match op with
    | .not => some (.lit (.bool (Bool.not b)))
    | _ => none
  | some _ => pureLit C ρ o
  | none => none

structure FAct where
  run : Env → H → Option AV
def actF (C : Cfg) (o : Oper) : FAct :=
  match o.op with
  | .move x => ⟨fun ρ _ => ρ x⟩
  | .assign x => ⟨fun ρ _ => ρ x⟩
  | .pick c a b => ⟨fun ρ _ => fPick (ρ c) (ρ a) (ρ b)⟩
  | .build t parts => ⟨fun ρ _ => fBuild C t (evParts ρ parts.toList)⟩
  | .load t a => ⟨fun ρ h => fLoad C h t (ρ a)⟩
  | .nilCheck x => ⟨fun ρ _ => fNil (ρ x)⟩
  | .makeFunc fn first captured => ⟨fun ρ _ => fMake fn (evs ρ first.toList) (evs ρ captured.toList)⟩
  | .slice t x lo hi mx => ⟨fun ρ h => fSlice C ρ h o t (ρ x) lo hi mx⟩
  | .fieldAddr s x f => ⟨fun ρ _ => fFieldAddr (ρ x) (offOf C f s)⟩
  | .field t x f => ⟨fun ρ _ => fField C t f (ρ x)⟩
  | .indexAddr t x i => ⟨fun ρ _ => fIndexAddr C t (ρ x) (ρ i)⟩
  | .index t x i => ⟨fun ρ _ => fIndex C ρ o t (ρ x) (ρ i)⟩
  | .lookup t x i ok => ⟨fun ρ h => fLookup C h t (ρ x) (ρ i) ok⟩
  | .extract t i => ⟨fun ρ _ => fExtract i (ρ t)⟩
  | .convert src dst x => ⟨fun ρ h => fConvert C ρ h o src dst (ρ x)⟩
  | .binOp op t x y _ => ⟨fun ρ _ => fBin C ρ o op t (ρ x) (ρ y)⟩
  | .call c => ⟨fun ρ h => fCall C ρ h o c⟩
  | .unOp op _ x => ⟨fun ρ _ => fUn C ρ o op (ρ x)⟩
  | _ => ⟨fun _ _ => none⟩
def evF (C : Cfg) (ρ : Env) (h : H) (o : Oper) : Option AV := match actF C o with
  | ⟨f⟩ => f ρ h

def repl (l : List AV) : Nat → List AV
  | 0 => []
  | n + 1 => l ++ repl l n

/-! ### operations that make a block: the block, and what is answered, at the block's number -/
def aMake (C : Cfg) (b : Nat) (elem : TypeId) (l c : Nat) : Option (AO × AV) := match szT C.P elem, bytesT C.P elem, zeroT C.P elem with
  | some s, some by', some z =>
    if l ≤ c ∧ c ≤ 2 ^ 40 ∧ by' * c ≤ 2 ^ 47 ∧ z.cells.length = s ∧ 0 < s then
      some (.cells (wrCells .e 0 (repl z.cells c)) (c * s) elem false, .sl b 0 l c s true)
    else none
  | _, _, _ => none
def aBuildSlice (C : Cfg) (b : Nat) (elem : TypeId) (len : Nat) (ps : List (Nat × AV)) : Option (AO × AV) := match szT C.P elem, zeroT C.P elem with
  | some s, some z => if len * s ≤ 2 ^ 24 ∧ z.cells.length = s ∧ 0 < s then
      match fillA (fun i => some (i * s, s)) (repl z.cells len) ps with
      | some cs => some (.cells (wrCells .e 0 cs) cs.length elem false, .sl b 0 len len s true)
      | none => none
    else none
  | _, _ => none
def aBox (b : Nat) (t : TypeId) : Option AV → Option (AO × AV)
  | some v => some (.cells (wrCells .e 0 v.cells) v.cells.length t false, .ptr b 0)
  | none => none
def evA (C : Cfg) (ρ : Env) (o : Oper) (b : Nat) : Option (AO × AV) :=
  match o.op with
  | .alloc t => aBox b t (zeroT C.P t)
  | .box t x => aBox b t (ρ x)
  | .makeSlice t l c => match C.P.underlying t, ρ l, ρ c with
    | some (.slice elem), some (.lit (.int _ (.ofNat l))), some (.lit (.int _ (.ofNat c))) => aMake C b elem l c
    | _, _, _ => none
  | .buildSlice t len parts => match C.P.underlying t, evParts ρ parts.toList with
    | some (.slice elem), some ps => aBuildSlice C b elem len ps
    | _, _ => none
  | .makeMap _ none => some (.map [] 0, .map b)
  | .range t x => match C.P.underlying t, ρ x with
    | some .string, some (.lit (.string s)) => some (.iter s 0, .ptr b 0)
    | _, _ => none
  | _ => none

def firstSl (h : H) (size n b off : Nat) : Option (List AV) := match h.get b with
  | some (.cells c cn _ _) => match Nat.ble (Nat.add off (Nat.mul n size)) cn with
    | true => rdCells c off (Nat.mul n size)
    | false => none
  | _ => none
def lenIs (m : Nat) : Option (List AV) → Option (List AV)
  | some l => match Nat.beq l.length m with
    | true => match allCell l with
      | true => some l
      | false => none
    | false => none
  | none => none
def firstC0 (h : H) (size n : Nat) : AV → Option (List AV)
  | .sl b off _ _ _ _ => firstSl h size n b off
  | .sl0 => some []
  | .lit (.slice none _ _) => some []
  | .lit (.string s) => some ((s.extract 0 n).data.toList.map fun b => .lit (.int .u8 b.toNat))
  | _ => none
def firstC (h : H) (size n : Nat) (x : AV) : Option (List AV) := lenIs (Nat.mul n size) (firstC0 h size n x)

abbrev Out := AV × H × Nat
/-- room is there: in place -/
def appIn (h : H) (next b off need cap esz : Nat) (exact : Bool) (at_ : Nat) : Option (List AV) → Option Out
  | some new => match astoreCells h b at_ new with
    | some h => some (.sl b off need cap esz exact, h, next)
    | none => none
  | none => none
/-- the old cells (their number) in a new block, the new ones behind them -/
def appNew (h : H) (next need size : Nat) (elem : TypeId) : Option (T AV × Nat) → Option (List AV) → Option Out
  | some (c, k), some new => some (.sl next 0 need need size false, h.put next (.cells (wrCells c k new) (Nat.add k new.length) elem false), Nat.succ next)
  | _, _ => none
def oldCells (h : H) (k b off : Nat) : Option (T AV × Nat) := match h.get b with
  | some (.cells c cn _ _) => match Nat.ble (Nat.add off k) cn with
    | true => match off with
      | .zero => some (c, k)
      | .succ _ => match rdCells c off k with
        | some l => some (wrCells .e 0 l, k)
        | none => none
    | false => none
  | _ => none
/-- may it be written to? -/
def isRw (h : H) (b : Nat) (elem : TypeId) : Bool := match h.get b with
  | some (.cells _ _ el false) => Nat.beq el elem
  | _ => false
def appSl (h : H) (next : Nat) (elem : TypeId) (size by' b off len cap esz : Nat) (exact : Bool) (n : Nat) (x : AV) : Option Out :=
  match Nat.beq esz size, Nat.ble (Nat.add len n) cap with
  | true, true => appIn h next b off (Nat.add len n) cap esz exact (Nat.add off (Nat.mul len size)) (firstC h size n x)
  | true, false => if by' * (2 * (len + n) + 192) ≤ 2 ^ 47 ∧ (exact = true ∨ (off = 0 ∧ isRw h b elem = true)) then
      appNew (match exact with | true => h | false => h.del b) next (Nat.add len n) size elem (oldCells h (Nat.mul len size) b off) (firstC h size n x)
    else none
  | false, _ => none
def appNil (h : H) (next : Nat) (elem : TypeId) (size by' n : Nat) (x : AV) : Option Out :=
  match n with
  | 0 => some (.lit (.slice none 0 0), h, next)
  | _ + 1 => if by' * (2 * n + 192) ≤ 2 ^ 47 then appNew h next n size elem (some (.e, 0)) (firstC h size n x) else none
def appAt (C : Cfg) (h : H) (next : Nat) (elem : TypeId) (s x : AV) : Option Out := match szT C.P elem, bytesT C.P elem, zeroT C.P elem, lenOfAV x with
  | some size, some by', some z, some n =>
    if z.cells.length = size ∧ 0 < by' then
      match s with
      | .lit (.slice none 0 0) => appNil h next elem size by' n x
      | .sl b off len cap esz exact => appSl h next elem size by' b off len cap esz exact n x
      | _ => none
    else none
  | _, _, _, _ => none
def aappend (C : Cfg) (h : H) (next : Nat) (st xt : TypeId) (s x : AV) : Option Out :=
  match C.P.underlying st, C.P.underlying xt with
  | some (.slice _), some (.int _) => none
  | some (.slice elem), some _ => appAt C h next elem s x
  | _, _ => none

def setAt (f : Value × AV × Nat → Value × AV × Nat) : List (Value × AV × Nat) → Nat → List (Value × AV × Nat)
  | [], _ => []
  | x :: l, 0 => f x :: l
  | x :: l, i + 1 => x :: setAt f l i

/-! ### operations that write -/
def wStore (C : Cfg) (h : H) (next : Nat) (t : TypeId) : Option AV → Option AV → Option Out
  | some (.ptr b off), some v => match astore C.P h t b off v with
    | some h => some (.tup [], h, next)
    | none => none
  | _, _ => none
/-- the entry of a key: where it stands (its key then), or none -/
def keyAt (C : Cfg) (kt : TypeId) (es : List (Value × AV × Nat)) (k : Value) : Option (Option (Nat × Value × AV × Nat)) :=
  match sev C.P (Instr.checkKey false 10000 kt k) with
  | some _ => match findK C kt k es with
    | some (some i) => match es[i]? with
      | some e => match sev C.P (Instr.keyThatStays e.1 k) with
        | some k' => some (some (i, k', e.2.1, e.2.2))
        | none => none
      | none => none
    | some none => some none
    | none => none
  | none => none
def wUpdate (C : Cfg) (h : H) (next : Nat) (t : TypeId) (m k x : Option AV) : Option Out := match C.P.underlying t, m, k, x with
  | some (.map kt _), some (.map b), some k, some v => match h.get b, litOf k with
    | some (.map es clock), some k => match keyAt C kt es k with
      | some (some (i, k', _)) => some (.tup [], h.put b (.map (setAt (fun e => (k', v, e.2.2)) es i) clock), next)
      | some none => some (.tup [], h.put b (.map (es ++ [(k, v, clock)]) (clock + 1)), next)
      | none => none
    | _, _ => none
  | _, _, _, _ => none
def wEntry (C : Cfg) (h : H) (next : Nat) (t : TypeId) (m k : Option AV) : Option Out := match C.P.underlying t, m, k with
  | some (.map kt et), some (.map b), some k => match h.get b, litOf k with
    | some (.map es clock), some k => match keyAt C kt es k with
      | some (some (i, k', v, born)) => some (.tup [v, .lit (.int .i64 (.ofNat born))], h.put b (.map (setAt (fun e => (k', e.2.1, e.2.2)) es i) clock), next)
      | some none => match zeroT C.P et with
        | some z => some (.tup [z, .lit (.int .i64 (.ofNat clock))], h.put b (.map (es ++ [(k, z, clock)]) (clock + 1)), next)
        | none => none
      | none => none
    | _, _ => none
  | _, _, _ => none
def wEntryStore (h : H) (next : Nat) (m s x : Option AV) : Option Out := match m, s, x with
  | some (.map b), some (.lit (.int _ born)), some v => match h.get b with
    | some (.map es clock) => match es.findIdx? (fun e => (e.2.2 : Int) == born) with
      | some i => some (.tup [], h.put b (.map (setAt (fun e => (e.1, v, e.2.2)) es i) clock), next)
      | none => none
    | _ => none
  | _, _, _ => none
def wNext (h : H) (next : Nat) : Option AV → Option Out
  | some (.ptr b 0) => match h.get b with
    | some (.iter s pos) =>
      if pos < s.size then
        some (.tup [.lit (.bool true), .lit (.int .i64 pos), .lit (.int .i32 (Utf8.decode s pos).1)], h.put b (.iter s (pos + (Utf8.decode s pos).2)), next)
      else some (.tup [.lit (.bool false)], h, next)
    | _ => none
  | _ => none
def wAppend (C : Cfg) (h : H) (next : Nat) (l : Option (List AV)) (st xt : Option TypeId) : Option Out := match l, st, xt with
  | some [s, x], some st, some xt => aappend C h next st xt s x
  | _, _, _ => none
def wString (C : Cfg) (h : H) (next : Nat) (l : Option (List AV)) (pt : Option TypeId) : Option Out := match l, pt with
  | some [.ptr b off, .lit (.int _ (.ofNat n))], some pt => match C.P.underlying pt, h.get b with
    | some (.pointer u), some (.cells cs nb el false) =>
      if 0 < n ∧ off + n ≤ nb ∧ n ≤ 2 ^ 40 ∧ liesAt C.P C.P.depth el (nb / C.P.cellsOf el) off u n then
        match rdCells cs off n with
        | some l => match byteList l with
          | some bs => some (.lit (.string ⟨bs.toArray⟩), h.put b (.cells cs nb el true), next)
          | none => none
        | none => none
      else none
    | _, _ => none
  | _, _ => none
def wCopyTo (h : H) (next n : Nat) (d : AV) : Option (List AV) → Option Out
  | some cs => match d with
    | .sl b off _ _ _ _ => match astoreCells h b off cs with
      | some h => some (.lit (.int .i64 (.ofNat n)), h, next)
      | none => none
    | .lit (.slice none _ _) => some (.lit (.int .i64 (.ofNat n)), h, next)
    | _ => none
  | none => none
def wCopy (C : Cfg) (h : H) (next : Nat) (l : Option (List AV)) (dt : Option TypeId) : Option Out := match l, dt with
  | some [d, x], some dt => match C.P.underlying dt, lenOfAV d, lenOfAV x with
    | some (.slice elem), some dl, some xl => match szT C.P elem with
      | some size => wCopyTo h next (Nat.min xl dl) d (firstC h size (Nat.min xl dl) x)
      | none => none
    | _, _, _ => none
  | _, _ => none
def wCall (C : Cfg) (ρ : Env) (h : H) (next : Nat) (c : Call) : Option Out := match c.callee with
  | .builtin b => match b with
    | .append => wAppend C h next (evs ρ c.args.toList) c.argTypes[0]? c.argTypes[1]?
    | .unsafeString => wString C h next (evs ρ c.args.toList) c.argTypes[0]?
    | .copy => wCopy C h next (evs ρ c.args.toList) c.argTypes[0]?
    | _ => none
  | _ => none
structure WAct where
  run : Env → H → Nat → Option Out
def actW (C : Cfg) (o : Oper) : WAct :=
  match o.op with
  | .store t a x => ⟨fun ρ h next => wStore C h next t (ρ a) (ρ x)⟩
  | .mapUpdate t m k x => ⟨fun ρ h next => wUpdate C h next t (ρ m) (ρ k) (ρ x)⟩
  | .insert t m k x => ⟨fun ρ h next => wUpdate C h next t (ρ m) (ρ k) (ρ x)⟩
  | .mapEntry t m k => ⟨fun ρ h next => wEntry C h next t (ρ m) (ρ k)⟩
  | .entryStore _ m s x => ⟨fun ρ h next => wEntryStore h next (ρ m) (ρ s) (ρ x)⟩
  | .next it true => ⟨fun ρ h next => wNext h next (ρ it)⟩
  | .call c => ⟨fun ρ h next => wCall C ρ h next c⟩
  | _ => ⟨fun _ _ _ => none⟩
def evW (C : Cfg) (ρ : Env) (h : H) (next : Nat) (o : Oper) : Option Out := match actW C o with
  | ⟨f⟩ => f ρ h next

/-! ### code -/
inductive AX where
  | normal
  | exit (id : Nat)
  | goto (l : Nat)
  | ret

structure St where
  tmps : T AV
  nt : Nat
  dfs : List Nat
  h : H
  next : Nat

structure Eng where
  code : Option Nat → Code → St → Option (AX × St)
  call : FuncId → List AV → H → Nat → Option Out

def lookT (t : T AV) (i : Nat) : AV := match t.get i with | some v => v | none => .tup []

def putDst (t : T AV) (dst : Option Tmp) (v : AV) : T AV := match dst with | some d => t.put d v | none => t

def jumpOf : AX → Option Code
  | .normal => none
  | .ret => some .ret
  | .exit i => some (.exit i)
  | .goto l => some (.goto l)
def axOf : Option Code → Option AX
  | none => some .normal
  | some .ret => some .ret
  | some (.exit i) => some (.exit i)
  | some (.goto l) => some (.goto l)
  | some _ => none

def allLt (n : Nat) : List Nat → Bool
  | [] => true
  | x :: l => match Nat.blt x n with
    | true => allLt n l
    | false => false
def putArgs : List Nat → List AV → T AV → Option (T AV)
  | [], [], t => some t
  | p :: ps, a :: l, t => putArgs ps l (t.put p a)
  | _, _, _ => none

def endRound (b : Nat) (x : AX) : St → Option Out
  | ⟨_, _, _, h, next⟩ => match h.get b with
    | some (.loop .busy none tmps nt params assign body dfr) =>
      some (.lit (.bool (jumpOf x).isNone), h.put b (.loop (if (jumpOf x).isNone then .ready else .done) (jumpOf x) tmps nt params assign body dfr), next)
    | _ => none
def bodyRound (E : Eng) (b : Nat) (bd : Code) : St → Option Out
  | ⟨tm, n, dfs, h, next⟩ => match h.get b with
    | some (.loop .ready none tmps nt params assign body dfr) =>
      match E.code (some b) bd ⟨tm, n, dfs, h.put b (.loop .busy none tmps nt params assign body dfr), next⟩ with
      | some (x, st) => endRound b x st
      | none => none
    | _ => none
def runRound (E : Eng) (b : Nat) (assign body : Code) (nt : Nat) (tm : Option (T AV)) (h : H) (next : Nat) : Option Out := match tm with
  | some tm => match E.code (some b) assign { tmps := tm, nt, dfs := [], h, next } with
    | some (.normal, st) => bodyRound E b body st
    | _ => none
  | none => none
def callYield (E : Eng) (b : Nat) (args : List AV) (h : H) (next : Nat) : Option Out := match h.get b with
  | some (.loop .ready none tmps nt params assign body _) =>
    match allLt nt params.toList with
    | true => runRound E b assign body nt (putArgs params.toList args tmps) h next
    | false => none
  | _ => none
def oneArg (h : H) (next : Nat) : List AV → Option Out
  | [v] => some (v, h, next)
  | _ => none
def callExt (C : Cfg) (k : FuncId) (fn : Func) (as : List AV) (h : H) (next : Nat) : Option Out :=
  match Nat.beq k C.esc with
  | true => oneArg h next as
  | false => match litsOf as with
    | some vs => match nextVal (sev C.P (callFunc k vs.toArray)) with
      | some v => some (v, h, next)
      | none => none
    | none => none
def callK (C : Cfg) (E : Eng) (k : FuncId) (as : List AV) (h : H) (next : Nat) : Option Out :=
  match C.P.funcs[k]? with
  | some fn => match fn.body with
    | some _ => E.call k as h next
    | none => callExt C k fn as h next
  | none => none
/-- a call of a function value -/
def callV (C : Cfg) (E : Eng) (f : Option AV) (args : Option (List AV)) (h : H) (next : Nat) : Option Out :=
  match args with
  | some args => match f with
    | some (.fn (.func k) first captured) => callK C E k (first ++ args ++ captured) h next
    | some (.yld b) => callYield E b args h next
    | _ => none
  | none => none

def opCall (C : Cfg) (E : Eng) (ρ : Env) (h : H) (next : Nat) (o : Oper) : Option Out := match o.op with
  | .call c => match c.callee with
    | .value f => callV C E (ρ f) (evs ρ c.args.toList) h next
    | _ => none
  | _ => none

inductive Kind where
  | quiet | make | write | call
/-- of what sort an operation is -/
def kindOf (o : Oper) : Kind := match o.op with
  | .alloc _ | .box .. | .makeSlice .. | .buildSlice .. | .makeMap .. | .range .. => .make
  | .store .. | .mapUpdate .. | .insert .. | .mapEntry .. | .entryStore .. | .next .. => .write
  | .call c => match c.callee with
    | .value _ => .call
    | .builtin b => match b with
      | .append | .copy | .unsafeString => .write
      | _ => .quiet
    | _ => .quiet
  | _ => .quiet

/-- a writing operation, or a call -/
def opW (C : Cfg) (E : Eng) (ρ : Env) (h : H) (next : Nat) (o : Oper) : Option Out := match kindOf o with
  | .write => evW C ρ h next o
  | .call => opCall C E ρ h next o
  | _ => none

def outF (h : H) (next : Nat) : Option AV → Option Out
  | some v => some (v, h, next)
  | none => none
def outA (h : H) (next : Nat) : Option (AO × AV) → Option Out
  | some (ob, v) => some (v, h.put next ob, Nat.succ next)
  | none => none
/-- an operation, in the order of the text -/
def opRun (C : Cfg) (E : Eng) (ρ : Env) (o : Oper) (h : H) (next : Nat) : Option Out :=
  match kindOf o with
  | .quiet => outF h next (evF C ρ h o)
  | .make => outA h next (evA C ρ o next)
  | .write => evW C ρ h next o
  | .call => opCall C E ρ h next o

def yieldedA (ops : Array Oper) (look : Nat → AV) (j : Nat) : Option Bool :=
  match (ops[j]?).bind (·.dst) with
  | some t => match look t with | .lit (.bool b) => some b | _ => none
  | none => none
def wantedA (ops : Array Oper) (look : Nat → AV) (o : Oper) : Bool := match o.guard with
  | none => true
  | some (j, want) => match yieldedA ops look j with
    | some b => b == want
    | none => false

def dstOk (nt : Nat) (o : Oper) : Bool := match o.dst with | some d => Nat.blt d nt | none => true

def putOut (tmps : T AV) (nt : Nat) (dfs : List Nat) (dst : Option Tmp) : Option Out → Option St
  | some (v, h, next) => some ⟨putDst tmps dst v, nt, dfs, h, next⟩
  | none => none
def seqOp (C : Cfg) (E : Eng) (ops : Array Oper) (o : Oper) : St → Option St
  | ⟨tmps, nt, dfs, h, next⟩ => match dstOk nt o with
    | true => match wantedA ops (lookT tmps) o with
      | true => putOut tmps nt dfs o.dst (opRun C E (env C (lookT tmps)) o h next)
      | false => some ⟨putDst tmps o.dst (.tup []), nt, dfs, h, next⟩
    | false => none
def seqOps (C : Cfg) (E : Eng) (ops : Array Oper) : List Oper → St → Option St
  | [], st => some st
  | o :: rest, st => match seqOp C E ops o st with
    | some st => seqOps C E ops rest st
    | none => none

/-! a region whose order is open -/
def maskOf (m : T Nat) : List Edge → Nat → Nat
  | [], s => s
  | e :: l, s => match Region.binds .any e with
    | true => maskOf m l (Nat.lor (Nat.lor s (Nat.pow 2 e.on)) ((m.get e.on).getD 0))
    | false => maskOf m l s
def masks : List Oper → Nat → T Nat → T Nat
  | [], _, m => m
  | o :: l, i, m => masks l (Nat.succ i) (m.put i (maskOf m o.after.toList 0))
def dsts : List Oper → Nat → T Nat → T Nat
  | [], _, m => m
  | o :: l, i, m => dsts l (Nat.succ i) (match o.dst with | some d => m.put d i | none => m)

structure Plan where
  ops : Array Oper
  pred : T Nat
  dst : T Nat

def predOf (p : Plan) (i : Nat) : Nat := (p.pred.get i).getD 0
def isPred (p : Plan) (d i : Nat) : Bool := Nat.testBit (predOf p i) d
def valD (vals : T AV) (d : Nat) : AV := match vals.get d with | some v => v | none => .tup []
def lookR (p : Plan) (tmps : T AV) (vals : T AV) (i t : Nat) : AV :=
  match p.dst.get t with
  | some d => match isPred p d i with
    | true => valD vals d
    | false => lookT tmps t
  | none => lookT tmps t

def reads (o : Oper) : Bool := match o.op with
  | .load .. | .lookup .. | .convert .. | .slice .. => true
  | .call .. => true
  | _ => false

def tmpsRead (p : Plan) (o : Oper) : List Nat :=
  (o.op.operands.toList.filterMap fun | .tmp t => some t | _ => none) ++ (match o.guard with | some (g, _) => ((p.ops[g]?).bind (·.dst)).toList | none => [])
def tmpOk (p : Plan) (i t : Nat) : Bool := match p.dst.get t with
  | some d => Nat.beq d i || isPred p d i || isPred p i d
  | none => true
def dstIs (p : Plan) (i : Nat) (o : Oper) : Bool := match o.dst with
  | some d => match p.dst.get d with
    | some j => Nat.beq j i
    | none => false
  | none => true
/-- temporaries are named in order -/
def tmpsOk (p : Plan) (nt : Nat) : List Oper → Nat → Bool
  | [], _ => true
  | o :: l, i => dstOk nt o && dstIs p i o && (tmpsRead p o).all (tmpOk p i) && tmpsOk p nt l (Nat.succ i)

structure RSt where
  vals : T AV
  done : Nat
  early : List Nat
  h : H
  next : Nat

def ready (p : Plan) (done i : Nat) : Bool := Nat.beq (Nat.land (predOf p i) done) (predOf p i)
def setDone (done i : Nat) : Nat := Nat.lor done (Nat.pow 2 i)

def absF (s : RSt) (i : Nat) (o : Oper) : Option AV → Option RSt
  | some v => match s with
    | ⟨vals, done, early, h, next⟩ => some ⟨vals.put i v, setDone done i, match reads o with | true => i :: early | false => early, h, next⟩
  | none => none
def absA (s : RSt) (i : Nat) : Option (AO × AV) → Option RSt
  | some (ob, v) => match s with
    | ⟨vals, done, early, h, next⟩ => match h.get next with
      | none => some ⟨vals.put i v, setDone done i, early, h.put next ob, Nat.succ next⟩
      | some _ => none
  | none => none
def absN (s : RSt) (i : Nat) : Option RSt := match s with
  | ⟨vals, done, early, h, next⟩ => some ⟨vals.put i (.tup []), setDone done i, early, h, next⟩
/-- one operation that is ready, if it neither writes nor calls -/
def abs1 (C : Cfg) (p : Plan) (tmps : T AV) (s : RSt) (i : Nat) (o : Oper) : Option RSt :=
  match wantedA p.ops (lookR p tmps s.vals i) o with
  | true => match kindOf o with
    | .quiet => absF s i o (evF C (env C (lookR p tmps s.vals i)) s.h o)
    | .make => absA s i (evA C (env C (lookR p tmps s.vals i)) o s.next)
    | _ => none
  | false => absN s i
def absI (C : Cfg) (p : Plan) (tmps : T AV) (s : RSt) (i : Nat) : Option RSt := match ready p s.done i with
  | true => match p.ops[i]? with
    | some o => abs1 C p tmps s i o
    | none => none
  | false => none
/-- what is ready and neither writes nor calls -/
def absorb (C : Cfg) (p : Plan) (tmps : T AV) : List Nat → RSt → List Nat → RSt × List Nat
  | [], s, keep => (s, keep)
  | i :: l, s, keep => match absI C p tmps s i with
    | some s => absorb C p tmps l s keep
    | none => absorb C p tmps l s (i :: keep)

/-- early readers read the same still -/
def still1 (C : Cfg) (p : Plan) (tmps : T AV) (vals : T AV) (h : H) (i : Nat) : Bool := match p.ops[i]? with
  | some o => match evF C (env C (lookR p tmps vals i)) h o with
    | some v => (valD vals i).same v
    | none => false
  | none => false
def still (C : Cfg) (p : Plan) (tmps : T AV) (vals : T AV) (h : H) : List Nat → Bool
  | [] => true
  | i :: l => match still1 C p tmps vals h i with
    | true => still C p tmps vals h l
    | false => false

def afterW (C : Cfg) (p : Plan) (tmps : T AV) (i : Nat) (s : RSt) : Option Out → Option RSt
  | some (v, h, next) => match s with
    | ⟨vals, done, early, _, _⟩ => match still C p tmps vals h (early.filter fun j => Bool.not (isPred p j i)) with
      | true => some ⟨vals.put i v, setDone done i, early.filter fun j => Bool.not (isPred p j i), h, next⟩
      | false => none
  | none => none
def stageW (C : Cfg) (E : Eng) (p : Plan) (tmps : T AV) (s : RSt) (i : Nat) : Option RSt := match p.ops[i]? with
  | some o => match wantedA p.ops (lookR p tmps s.vals i) o with
    | true => afterW C p tmps i s (opW C E (env C (lookR p tmps s.vals i)) s.h s.next o)
    | false => none
  | none => none
def stages (C : Cfg) (E : Eng) (p : Plan) (tmps : T AV) : Nat → List Nat → RSt → Option RSt
  | 0, _, _ => none
  | f + 1, rem, s =>
    match absorb C p tmps rem s [] with
    | (s, keep) => match keep with
      | [] => some s
      | _ :: _ => match keep.filter (ready p s.done) with
        | [i] => match stageW C E p tmps s i with
          | some s => stages C E p tmps f (keep.reverse.filter fun j => Bool.not (Nat.beq j i)) s
          | none => none
        | _ => none

def putAll (vals : T AV) : List Oper → Nat → T AV → T AV
  | [], _, t => t
  | o :: l, i, t => putAll vals l (Nat.succ i) (putDst t o.dst (valD vals i))

def planOf (ops : Array Oper) : Plan := { ops, pred := masks ops.toList 0 .e, dst := dsts ops.toList 0 .e }

def drawnEnd (tmps : T AV) (nt : Nat) (dfs : List Nat) (ops : Array Oper) : Option RSt → Option St
  | some ⟨vals, _, _, h, next⟩ => some ⟨putAll vals ops.toList 0 tmps, nt, dfs, h, next⟩
  | none => none
def drawn (C : Cfg) (E : Eng) (ops : Array Oper) : St → Option St
  | ⟨tmps, nt, dfs, h, next⟩ => match tmpsOk (planOf ops) nt ops.toList 0 with
    | true => drawnEnd tmps nt dfs ops (stages C E (planOf ops) tmps (ops.size + 1) (List.range ops.size) ⟨.e, 0, [], h, next⟩)
    | false => none

def asNormal : Option St → Option (AX × St)
  | some st => some (.normal, st)
  | none => none
def thenCode (E : Eng) (round : Option Nat) (b : Code) : Option (AX × St) → Option (AX × St)
  | some (x, st) => match x with
    | .normal => E.code round b st
    | x => some (x, st)
  | none => none
def blockEnd (id : Nat) : Option (AX × St) → Option (AX × St)
  | some (x, st) => match x with
    | .exit j => match Nat.beq j id with
      | true => some (.normal, st)
      | false => some (.exit j, st)
    | x => some (x, st)
  | none => none
def scopeEnd : Option (AX × St) → Option (AX × St)
  | some (x, st) => match x with
    | .goto _ => none
    | x => some (x, st)
  | none => none
def branch (E : Eng) (round : Option Nat) (a b : Code) (st : St) : Option AV → Option (AX × St)
  | some (.lit (.bool t)) => match t with
    | true => E.code round a st
    | false => E.code round b st
  | _ => none

def rfEnd (l : Nat) (tm : T AV) (n : Nat) (dfs : List Nat) : Option Out → Option (AX × St)
  | some (_, h, nx) => match h.get l with
    | some (.loop s jump tmps nt ps as bd d) =>
      match s with
      | .busy => none
      | _ => match axOf jump with
        | some x => some (x, ⟨tm, n, dfs, h.put l (.loop .exhausted jump tmps nt ps as bd d), nx⟩)
        | none => none
    | _ => none
  | none => none
/-- the loop's record laid; the one call -/
def rfCall (C : Cfg) (E : Eng) (params : Array Tmp) (assign body : Code) (k : FuncId) (first captured : List AV) (dfr : Nat) (dfs : List Nat) (tmps : T AV) (nt : Nat) (h : H) (next : Nat) : Option (AX × St) :=
  match C.P.funcs[k]? with
  | some fn => match fn.body with
    | some _ => rfEnd next tmps nt dfs (E.call k (first ++ [.yld next] ++ captured) (h.put next (.loop .ready none tmps nt params assign body dfr)) (Nat.succ next))
    | none => none
  | none => none
def rfEnter (C : Cfg) (E : Eng) (round : Option Nat) (params : Array Tmp) (assign body : Code) (st : St) : Option AV → Option (AX × St)
  | some (.fn (.func k) first captured) => match st with
    | ⟨tmps, nt, dfs, h, next⟩ => match round with
      | none => rfCall C E params assign body k first captured next (next :: dfs) tmps nt (h.put next .dfr) (Nat.succ next)
      | some l => match h.get l with
        | some (.loop _ _ _ _ _ _ _ d) => rfCall C E params assign body k first captured d dfs tmps nt h next
        | _ => none
  | _ => none

def envSt (C : Cfg) : St → Operand → Option AV
  | ⟨tmps, _, _, _, _⟩, x => env C (lookT tmps) x
structure CAct where
  run : Eng → Option Nat → St → Option (AX × St)
def actC (C : Cfg) (c : Code) : CAct :=
  match c with
  | .skip => ⟨fun _ _ st => some (.normal, st)⟩
  | .label _ => ⟨fun _ _ st => some (.normal, st)⟩
  | .region _ ops false => ⟨fun E _ st => asNormal (seqOps C E ops ops.toList st)⟩
  | .region _ ops true => ⟨fun E _ st => asNormal (drawn C E ops st)⟩
  | .seq a b => ⟨fun E round st => thenCode E round b (E.code round a st)⟩
  | .cond c a b => ⟨fun E round st => branch E round a b st (envSt C st c)⟩
  | .block id b => ⟨fun E round st => blockEnd id (E.code round b st)⟩
  | .loop b => ⟨fun E round st => thenCode E round (.loop b) (E.code round b st)⟩
  | .exit id => ⟨fun _ _ st => some (.exit id, st)⟩
  | .goto l => ⟨fun _ _ st => some (.goto l, st)⟩
  | .ret => ⟨fun _ _ st => some (.ret, st)⟩
  | .scope b => ⟨fun E round st => scopeEnd (E.code round b st)⟩
  | .rangeFunc f params assign body => ⟨fun E round st => rfEnter C E round params assign body st (envSt C st f)⟩
  | .refuse _ => ⟨fun _ _ _ => none⟩
def codeF (C : Cfg) (E : Eng) (round : Option Nat) (c : Code) (st : St) : Option (AX × St) := match actC C c with
  | ⟨f⟩ => f E round st

def resultsA (C : Cfg) (h : H) (tmps : T AV) : List ResultVar → Option (List AV)
  | [] => some []
  | .tmp t :: l => match resultsA C h tmps l with | some r => some (lookT tmps t :: r) | none => none
  | .cell a t :: l => match fLoad C h t (some (lookT tmps a)), resultsA C h tmps l with
    | some v, some r => some (v :: r)
    | _, _ => none

def argT : List AV → Nat → T AV → T AV
  | [], _, t => t
  | a :: l, i, t => argT l (Nat.succ i) (t.put i a)

def dropAll (h : H) : List Nat → Option H
  | [] => some h
  | d :: l => match h.get d with
    | some .dfr => dropAll (h.del d) l
    | _ => none

def one : List AV → AV
  | [v] => v
  | vs => .tup vs
def retOut (h : H) (next : Nat) : Option (List AV) → Option Out
  | some vs => some (one vs, h, next)
  | none => none
def leave (C : Cfg) (fn : Func) : St → Option Out
  | ⟨tmps, _, dfs, h, next⟩ => match dropAll h dfs with
    | some h => retOut h next (resultsA C h tmps fn.results.toList)
    | none => none
def callEnd (C : Cfg) (fn : Func) : Option (AX × St) → Option Out
  | some (x, st) => match x with
    | .normal => leave C fn st
    | .ret => leave C fn st
    | _ => none
  | none => none
def callF (C : Cfg) (E : Eng) (f : FuncId) (args : List AV) (h : H) (next : Nat) : Option Out :=
  match C.P.funcs[f]? with
  | none => none
  | some fn => match fn.body with
    | none => none
    | some body => callEnd C fn (E.code none body ⟨argT args 0 .e, Nat.max fn.ntmps args.length, [], h, next⟩)

def eng (C : Cfg) : Nat → Eng
  | 0 => { code := fun _ _ _ => none, call := fun _ _ _ _ => none }
  | n + 1 => { code := codeF C (eng C n), call := callF C (eng C n) }

end
end Go.Ax
set_option linter.unusedVariables false
set_option linter.unusedSimpArgs false
namespace Go.Ax
open Go Go.RowKit

/-! ### trees -/
namespace T
variable {α : Type}
@[simp] theorem get_e (i : Nat) : (T.e : T α).get i = none := rfl
theorem get_n0 (v : Option α) (l r : T α) : (T.n v l r).get 0 = v := rfl
theorem get_even (v : Option α) (l r : T α) {k : Nat} (h : k % 2 = 0) : (T.n v l r).get (k + 1) = l.get (k / 2) := by
  have : Nat.mod k 2 = 0 := h
  show (Nat.rec (motive := fun _ => Option α) (l.get (Nat.div k 2)) (fun _ _ => r.get (Nat.div k 2)) (Nat.mod k 2)) = _
  rw [this]; rfl
theorem get_odd (v : Option α) (l r : T α) {k : Nat} (h : k % 2 = 1) : (T.n v l r).get (k + 1) = r.get (k / 2) := by
  have : Nat.mod k 2 = 1 := h
  show (Nat.rec (motive := fun _ => Option α) (l.get (Nat.div k 2)) (fun _ _ => r.get (Nat.div k 2)) (Nat.mod k 2)) = _
  rw [this]; rfl
theorem putF_e0 (f : Nat) (x : Option α) : putF (f + 1) .e 0 x = .n x .e .e := rfl
theorem putF_n0 (f : Nat) (v : Option α) (l r : T α) (x : Option α) : putF (f + 1) (.n v l r) 0 x = .n x l r := rfl
theorem putF_e_even (f : Nat) {k : Nat} (x : Option α) (h : k % 2 = 0) : putF (f + 1) .e (k + 1) x = .n none (putF f .e (k / 2) x) .e := by
  have : Nat.mod k 2 = 0 := h
  show (Nat.rec (motive := fun _ => T α) (.n none (putF f .e (Nat.div k 2) x) .e) (fun _ _ => .n none .e (putF f .e (Nat.div k 2) x)) (Nat.mod k 2)) = _
  rw [this]; rfl
theorem putF_e_odd (f : Nat) {k : Nat} (x : Option α) (h : k % 2 = 1) : putF (f + 1) .e (k + 1) x = .n none .e (putF f .e (k / 2) x) := by
  have : Nat.mod k 2 = 1 := h
  show (Nat.rec (motive := fun _ => T α) (.n none (putF f .e (Nat.div k 2) x) .e) (fun _ _ => .n none .e (putF f .e (Nat.div k 2) x)) (Nat.mod k 2)) = _
  rw [this]; rfl
theorem putF_n_even (f : Nat) {k : Nat} (v : Option α) (l r : T α) (x : Option α) (h : k % 2 = 0) : putF (f + 1) (.n v l r) (k + 1) x = .n v (putF f l (k / 2) x) r := by
  have : Nat.mod k 2 = 0 := h
  show (Nat.rec (motive := fun _ => T α) (.n v (putF f l (Nat.div k 2) x) r) (fun _ _ => .n v l (putF f r (Nat.div k 2) x)) (Nat.mod k 2)) = _
  rw [this]; rfl
theorem putF_n_odd (f : Nat) {k : Nat} (v : Option α) (l r : T α) (x : Option α) (h : k % 2 = 1) : putF (f + 1) (.n v l r) (k + 1) x = .n v l (putF f r (k / 2) x) := by
  have : Nat.mod k 2 = 1 := h
  show (Nat.rec (motive := fun _ => T α) (.n v (putF f l (Nat.div k 2) x) r) (fun _ _ => .n v l (putF f r (Nat.div k 2) x)) (Nat.mod k 2)) = _
  rw [this]; rfl
theorem get_putF : ∀ (f : Nat) (t : T α) (i : Nat) (x : Option α) (j : Nat), i < f → (putF f t i x).get j = if j = i then x else t.get j := by
  intro f
  induction f with
  | zero => intro t i x j h; omega
  | succ f ih =>
    intro t i x j h
    have hm : ∀ k : Nat, k % 2 = 0 ∨ k % 2 = 1 := fun k => by omega
    cases t with
    | e =>
      cases i with
      | zero =>
        rw [putF_e0]
        cases j with
        | zero => simp [get_n0]
        | succ j => rcases hm j with e | e <;> simp [get_even, get_odd, e]
      | succ k =>
        have hk : k / 2 < f := by omega
        rcases hm k with e | e
        · rw [putF_e_even f x e]
          cases j with
          | zero => simp [get_n0]
          | succ j =>
            rcases hm j with e' | e'
            · rw [get_even _ _ _ e', ih _ _ _ _ hk]
              by_cases h1 : j = k
              · subst h1; simp
              · have : ¬ j / 2 = k / 2 := by omega
                simp [h1, this]
            · rw [get_odd _ _ _ e']
              have : ¬ j = k := by intro h; subst h; omega
              simp [this]
        · rw [putF_e_odd f x e]
          cases j with
          | zero => simp [get_n0]
          | succ j =>
            rcases hm j with e' | e'
            · rw [get_even _ _ _ e']
              have : ¬ j = k := by intro h; subst h; omega
              simp [this]
            · rw [get_odd _ _ _ e', ih _ _ _ _ hk]
              by_cases h1 : j = k
              · subst h1; simp
              · have : ¬ j / 2 = k / 2 := by omega
                simp [h1, this]
    | n v l r =>
      cases i with
      | zero =>
        rw [putF_n0]
        cases j with
        | zero => simp [get_n0]
        | succ j => rcases hm j with e | e <;> simp [get_even, get_odd, e]
      | succ k =>
        have hk : k / 2 < f := by omega
        rcases hm k with e | e
        · rw [putF_n_even f v l r x e]
          cases j with
          | zero => simp [get_n0]
          | succ j =>
            rcases hm j with e' | e'
            · rw [get_even _ _ _ e', ih _ _ _ _ hk, get_even _ _ _ e']
              by_cases h1 : j = k
              · subst h1; simp
              · have : ¬ j / 2 = k / 2 := by omega
                simp [h1, this]
            · rw [get_odd _ _ _ e', get_odd _ _ _ e']
              have : ¬ j = k := by intro h; subst h; omega
              simp [this]
        · rw [putF_n_odd f v l r x e]
          cases j with
          | zero => simp [get_n0]
          | succ j =>
            rcases hm j with e' | e'
            · rw [get_even _ _ _ e', get_even _ _ _ e']
              have : ¬ j = k := by intro h; subst h; omega
              simp [this]
            · rw [get_odd _ _ _ e', ih _ _ _ _ hk, get_odd _ _ _ e']
              by_cases h1 : j = k
              · subst h1; simp
              · have : ¬ j / 2 = k / 2 := by omega
                simp [h1, this]
theorem get_put (t : T α) (i : Nat) (x : α) (j : Nat) : (t.put i x).get j = if j = i then some x else t.get j := get_putF _ _ _ _ _ (Nat.lt_succ_self i)
theorem get_del (t : T α) (i j : Nat) : (t.del i).get j = if j = i then none else t.get j := get_putF _ _ _ _ _ (Nat.lt_succ_self i)
end T

/-! ### where an abstract block lies -/
structure Loc where
  c : Nat
  tot : Nat
abbrev Mu := Nat → Option Loc

mutual
inductive VRel (μ : Mu) : AV → Value → Prop
  | lit (v : Value) : VRel μ (.lit v) v
  | ptr {b off : Nat} {L : Loc} (h : μ b = some L) : VRel μ (.ptr b off) (.pointer (some ⟨L.c, off, none⟩))
  | sl {b off len cap esz cap' : Nat} {exact : Bool} {L : Loc} (h : μ b = some L) (h1 : cap ≤ cap') (h2 : exact = true → cap' = cap) (h3 : len ≤ cap) (h4 : off + cap' * esz ≤ L.tot) :
      VRel μ (.sl b off len cap esz exact) (.slice (some ⟨L.c, off, none⟩) len cap')
  | fn (f : Fn) {l k : List AV} {l' k' : List Value} (h1 : VRels μ l l') (h2 : VRels μ k k') : VRel μ (.fn f l k) (.func f l'.toArray k'.toArray)
  | yld {b : Nat} {L : Loc} (h : μ b = some L) : VRel μ (.yld b) (.func (.yield L.c) #[] #[])
  | agg {l : List AV} {l' : List Value} (h : VRels μ l l') : VRel μ (.agg l) (.agg l'.toArray)
  | tup {l : List AV} {l' : List Value} (h : VRels μ l l') : VRel μ (.tup l) (.tuple l'.toArray)
  | map {b : Nat} {L : Loc} (h : μ b = some L) : VRel μ (.map b) (.map (some L.c))
  | sl0 (a : Addr) (cap' : Nat) : VRel μ .sl0 (.slice (some a) 0 cap')
inductive VRels (μ : Mu) : List AV → List Value → Prop
  | nil : VRels μ [] []
  | cons {a : AV} {v : Value} {l : List AV} {l' : List Value} (h : VRel μ a v) (h' : VRels μ l l') : VRels μ (a :: l) (v :: l')
end

def Mu.le (μ μ' : Mu) : Prop := ∀ b L, μ b = some L → μ' b = some L
theorem Mu.le.refl (μ : Mu) : μ.le μ := fun _ _ h => h
theorem Mu.le.trans {a b c : Mu} (h : a.le b) (k : b.le c) : a.le c := fun x L hx => k x L (h x L hx)

mutual
theorem VRel.mono {μ μ' : Mu} (hle : μ.le μ') : ∀ {a : AV} {v : Value}, VRel μ a v → VRel μ' a v
  | _, _, .lit v => .lit v
  | _, _, .ptr h => .ptr (hle _ _ h)
  | _, _, .sl h h1 h2 h3 h4 => .sl (hle _ _ h) h1 h2 h3 h4
  | _, _, .fn f h1 h2 => .fn f (VRels.mono hle h1) (VRels.mono hle h2)
  | _, _, .yld h => .yld (hle _ _ h)
  | _, _, .agg h => .agg (VRels.mono hle h)
  | _, _, .tup h => .tup (VRels.mono hle h)
  | _, _, .map h => .map (hle _ _ h)
  | _, _, .sl0 a c => .sl0 a c
theorem VRels.mono {μ μ' : Mu} (hle : μ.le μ') : ∀ {a : List AV} {v : List Value}, VRels μ a v → VRels μ' a v
  | _, _, .nil => .nil
  | _, _, .cons h h' => .cons (VRel.mono hle h) (VRels.mono hle h')
end

section
variable {μ : Mu}
theorem VRels.lits (l : List Value) : VRels μ (l.map .lit) l := by
  induction l with
  | nil => exact .nil
  | cons a l ih => exact .cons (.lit a) ih
theorem VRel.ofV (v : Value) : VRel μ (ofV v) v := by
  cases v with
  | agg cs => have := VRel.agg (VRels.lits (μ := μ) cs.toList); simpa [Ax.ofV] using this
  | tuple cs => have := VRel.tup (VRels.lits (μ := μ) cs.toList); simpa [Ax.ofV] using this
  | _ => exact .lit _
theorem VRels.length {l : List AV} {l' : List Value} (h : VRels μ l l') : l.length = l'.length := by
  induction l generalizing l' with
  | nil => cases h; rfl
  | cons a l ih => cases h with | cons h h' => simp [ih h']
theorem VRels.append {l m : List AV} {l' m' : List Value} (h : VRels μ l l') (k : VRels μ m m') : VRels μ (l ++ m) (l' ++ m') := by
  induction l generalizing l' with
  | nil => cases h; exact k
  | cons a l ih => cases h with | cons h h' => exact .cons h (ih h')
theorem VRels.get {l : List AV} {l' : List Value} (h : VRels μ l l') {i : Nat} {a : AV} (hi : l[i]? = some a) : ∃ v, l'[i]? = some v ∧ VRel μ a v := by
  induction l generalizing l' i with
  | nil => simp at hi
  | cons x l ih =>
    cases h with
    | cons h h' =>
      cases i with
      | zero => simp at hi; subst hi; exact ⟨_, rfl, h⟩
      | succ i => simp at hi; simpa using ih h' hi
theorem VRels.take {l : List AV} {l' : List Value} (h : VRels μ l l') (n : Nat) : VRels μ (l.take n) (l'.take n) := by
  induction l generalizing l' n with
  | nil => cases h; simp; exact .nil
  | cons a l ih =>
    cases h with
    | cons h h' =>
      cases n with
      | zero => exact .nil
      | succ n => simpa using VRels.cons h (ih h' n)
theorem VRels.drop {l : List AV} {l' : List Value} (h : VRels μ l l') (n : Nat) : VRels μ (l.drop n) (l'.drop n) := by
  induction l generalizing l' n with
  | nil => cases h; simp; exact .nil
  | cons a l ih =>
    cases h with
    | cons h h' =>
      cases n with
      | zero => exact .cons h h'
      | succ n => simpa using ih h' n
theorem VRels.of_get {l : List AV} : ∀ {l' : List Value}, l.length = l'.length → (∀ (i : Nat) (a : AV) (v : Value), l[i]? = some a → l'[i]? = some v → VRel μ a v) → VRels μ l l' := by
  induction l with
  | nil => intro l' hl _; cases l' with | nil => exact .nil | cons => simp at hl
  | cons a l ih =>
    intro l' hl h
    cases l' with
    | nil => simp at hl
    | cons v l' => exact .cons (h 0 a v rfl rfl) (ih (by simpa using hl) fun i a v h1 h2 => h (i + 1) a v (by simpa using h1) (by simpa using h2))

mutual
theorem litOf_rel : ∀ {a : AV} {u v : Value}, litOf a = some u → VRel μ a v → v = u
  | .lit w, u, v, h, r => by cases r; simp [litOf] at h; exact h
  | .agg cs, u, v, h, r => by
    cases r with
    | agg hr =>
      simp only [litOf] at h
      cases hl : litsOf cs with
      | none => simp [hl] at h
      | some l => simp [hl] at h; subst h; rw [litsOf_rel hl hr]
  | .tup cs, u, v, h, r => by
    cases r with
    | tup hr =>
      simp only [litOf] at h
      cases hl : litsOf cs with
      | none => simp [hl] at h
      | some l => simp [hl] at h; subst h; rw [litsOf_rel hl hr]
  | .ptr .., _, _, h, _ => by simp [litOf] at h
  | .sl .., _, _, h, _ => by simp [litOf] at h
  | .fn .., _, _, h, _ => by simp [litOf] at h
  | .yld .., _, _, h, _ => by simp [litOf] at h
  | .map .., _, _, h, _ => by simp [litOf] at h
  | .sl0, _, _, h, _ => by simp [litOf] at h
theorem litsOf_rel : ∀ {a : List AV} {u v : List Value}, litsOf a = some u → VRels μ a v → v = u
  | [], u, v, h, r => by cases r; simp [litsOf] at h; exact h.symm
  | a :: l, u, v, h, r => by
    cases r with
    | cons hr hr' =>
      simp only [litsOf] at h
      cases h1 : litOf a with
      | none => simp [h1] at h
      | some x =>
        cases h2 : litsOf l with
        | none => simp [h1, h2] at h
        | some y => simp [h1, h2] at h; subst h; rw [litOf_rel h1 hr, litsOf_rel h2 hr']
end
mutual
theorem litOf_mk : ∀ {a : AV} {u : Value}, litOf a = some u → VRel μ a u
  | .lit w, u, h => by simp [litOf] at h; subst h; exact .lit _
  | .agg cs, u, h => by
    simp only [litOf] at h
    cases hl : litsOf cs with
    | none => simp [hl] at h
    | some l => simp [hl] at h; subst h; exact .agg (litsOf_mk hl)
  | .tup cs, u, h => by
    simp only [litOf] at h
    cases hl : litsOf cs with
    | none => simp [hl] at h
    | some l => simp [hl] at h; subst h; exact .tup (litsOf_mk hl)
  | .ptr .., _, h => by simp [litOf] at h
  | .sl .., _, h => by simp [litOf] at h
  | .fn .., _, h => by simp [litOf] at h
  | .yld .., _, h => by simp [litOf] at h
  | .map .., _, h => by simp [litOf] at h
  | .sl0, _, h => by simp [litOf] at h
theorem litsOf_mk : ∀ {a : List AV} {u : List Value}, litsOf a = some u → VRels μ a u
  | [], u, h => by simp [litsOf] at h; subst h; exact .nil
  | a :: l, u, h => by
    simp only [litsOf] at h
    cases h1 : litOf a with
    | none => simp [h1] at h
    | some x =>
      cases h2 : litsOf l with
      | none => simp [h1, h2] at h
      | some y => simp [h1, h2] at h; subst h; exact .cons (litOf_mk h1) (litsOf_mk h2)
end

theorem litSame_eq {a b : Value} (h : litSame a b = true) : a = b := by
  cases a <;> cases b <;> simp [litSame] at h <;> try (simp [h]; done)
  case string.string s t => obtain ⟨⟨s⟩⟩ := s; obtain ⟨⟨t⟩⟩ := t; simp at h; simp [h]
  case pointer.pointer a b => cases a <;> cases b <;> simp [litSame] at h; rfl
  case slice.slice a _ _ b _ _ => cases a <;> cases b <;> simp [litSame] at h; simp [h]
  case map.map a b => cases a <;> cases b <;> simp [litSame] at h; rfl
mutual
theorem same_eq : ∀ {a b : AV}, AV.same a b = true → a = b
  | .lit a, b, h => by cases b <;> simp [AV.same] at h; rw [litSame_eq h]
  | .ptr .., b, h => by cases b <;> simp [AV.same] at h; simp [h]
  | .sl .., b, h => by cases b <;> simp [AV.same] at h; simp [h]
  | .fn f x y, b, h => by cases b <;> simp [AV.same] at h; rw [sames_eq h.1.2, sames_eq h.2, h.1.1]
  | .yld .., b, h => by cases b <;> simp [AV.same] at h; simp [h]
  | .agg x, b, h => by cases b <;> simp [AV.same] at h; rw [sames_eq h]
  | .tup x, b, h => by cases b <;> simp [AV.same] at h; rw [sames_eq h]
  | .map .., b, h => by cases b <;> simp [AV.same] at h; simp [h]
  | .sl0, b, h => by cases b <;> simp [AV.same] at h; rfl
theorem sames_eq : ∀ {a b : List AV}, sames a b = true → a = b
  | [], b, h => by cases b <;> simp [sames] at h; rfl
  | a :: l, b, h => by
    cases b with
    | nil => simp [sames] at h
    | cons c m => simp [sames] at h; rw [same_eq h.1, sames_eq h.2]
end

theorem VRel.cells {a : AV} {v : Value} (h : VRel μ a v) : VRels μ a.cells v.cells.toList := by
  cases h with
  | agg h => simpa [AV.cells, Value.cells] using h
  | lit v =>
    cases v with
    | agg cs => exact VRels.lits cs.toList
    | _ => exact .cons (.lit _) .nil
  | ptr h => exact .cons (.ptr h) .nil
  | sl h h1 h2 h3 h4 => exact .cons (.sl h h1 h2 h3 h4) .nil
  | fn f h1 h2 => exact .cons (.fn f h1 h2) .nil
  | yld h => exact .cons (.yld h) .nil
  | tup h => exact .cons (.tup h) .nil
  | map h => exact .cons (.map h) .nil
  | sl0 a c => exact .cons (.sl0 a c) .nil
theorem VRel.oneCell {a : AV} {v : Value} (h : VRel μ a v) (hc : a.isCell = true) : v.oneCell' = true := by
  cases h <;> simp [AV.isCell] at hc <;> try rfl
  case lit => cases v <;> simp [AV.isCell] at hc <;> rfl
end

/-! ### worlds -/
def TRel (μ : Mu) (t : T AV) (nt : Nat) (arr : Array Value) : Prop := arr.size = nt ∧ ∀ i, VRel μ (lookT t i) (arr.getD i undef)
theorem TRel.mono {μ μ' : Mu} (hle : μ.le μ') {t : T AV} {nt : Nat} {arr : Array Value} (h : TRel μ t nt arr) : TRel μ' t nt arr := ⟨h.1, fun i => (h.2 i).mono hle⟩
theorem undef_rel {μ : Mu} : VRel μ (.tup []) undef := .tup .nil
theorem lookT_put (t : T AV) (d i : Nat) (v : AV) : lookT (t.put d v) i = if i = d then v else lookT t i := by
  unfold lookT; rw [T.get_put]; by_cases e : i = d <;> simp [e]
theorem TRel.put {μ : Mu} {t : T AV} {nt : Nat} {arr : Array Value} (h : TRel μ t nt arr) {d : Nat} (hd : d < nt) {a : AV} {v : Value} (hv : VRel μ a v) : TRel μ (t.put d a) nt (arr.setIfInBounds d v) := by
  refine ⟨by simpa using h.1, fun i => ?_⟩
  rw [lookT_put]
  by_cases e : i = d
  · subst e; simp [Array.getD_eq_getD_getElem?, h.1, hd]; exact hv
  · simp only [e, if_false]
    have := h.2 i
    simpa [Array.getD_eq_getD_getElem?, Array.getElem?_setIfInBounds_ne (Ne.symm e)] using this

def AO.ro : AO → Bool
  | .cells _ _ _ r => r
  | _ => false

def CellsRel (μ : Mu) (t : T AV) (n : Nat) (L : Loc) (w : World) : Prop := ∀ i, i < n → ∃ a v, t.get i = some a ∧ w.cell? ⟨L.c, i, none⟩ = some v ∧ VRel μ a v

def EsRel (μ : Mu) (es : List (Value × AV × Nat)) (es' : List MapEntry) : Prop :=
  es.length = es'.length ∧ ∀ (i : Nat) x e, es[i]? = some x → es'[i]? = some e → e.key = x.1 ∧ VRel μ x.2.1 e.val ∧ e.born = x.2.2

def ObRel (μ : Mu) (L : Loc) (w : World) : AO → Prop
  | .cells t n el ro => CellsRel μ t n L w ∧ n ≤ L.tot ∧ w.shape? L.c = some (el, L.tot) ∧ (ro = false → ∀ i, w.frozen? ⟨L.c, i, none⟩ = false)
  | .loop st pend tmps nt ps as bd d => ∃ r : Loop, w.heap[L.c]? = some (.loop r) ∧ r.state = st ∧ r.pending = pend ∧ r.params = ps ∧ r.assign = as ∧ r.body = bd ∧ (∃ Ld, μ d = some Ld ∧ r.defers = Ld.c) ∧ TRel μ tmps nt r.tmps
  | .dfr => w.heap[L.c]? = some (.deferred (some []))
  | .map es clock => ∃ es' : Array MapEntry, w.heap[L.c]? = some (.map es' clock) ∧ EsRel μ es es'.toList
  | .iter s pos => w.heap[L.c]? = some (.stringIter s pos)

theorem cell?_block {w w' : World} {b : Nat} (h : w'.heap[b]? = w.heap[b]?) (i : Nat) : w'.cell? ⟨b, i, none⟩ = w.cell? ⟨b, i, none⟩ := by simp [World.cell?, h]
theorem frozen?_block {w w' : World} {b : Nat} (h : w'.heap[b]? = w.heap[b]?) (i : Nat) : w'.frozen? ⟨b, i, none⟩ = w.frozen? ⟨b, i, none⟩ := by simp [World.frozen?, h]
theorem shape?_block {w w' : World} {b : Nat} (h : w'.heap[b]? = w.heap[b]?) : w'.shape? b = w.shape? b := by simp [World.shape?, h]

theorem ObRel.mono {μ μ' : Mu} (hle : μ.le μ') {L : Loc} {w : World} {ob : AO} (h : ObRel μ L w ob) : ObRel μ' L w ob := by
  cases ob with
  | cells t n el ro => exact ⟨fun i hi => let ⟨a, v, h1, h2, h3⟩ := h.1 i hi; ⟨a, v, h1, h2, h3.mono hle⟩, h.2⟩
  | loop => obtain ⟨r, h1, h2, h3, h4, h5, h6, ⟨Ld, h7, h8⟩, h9⟩ := h; exact ⟨r, h1, h2, h3, h4, h5, h6, ⟨Ld, hle _ _ h7, h8⟩, h9.mono hle⟩
  | dfr => exact h
  | map => obtain ⟨es', h1, h2, h3⟩ := h; exact ⟨es', h1, h2, fun i x e hx he => let ⟨a, b, c⟩ := h3 i x e hx he; ⟨a, b.mono hle, c⟩⟩
  | iter => exact h
theorem ObRel.congr {μ : Mu} {L : Loc} {w w' : World} {ob : AO} (e : w'.heap[L.c]? = w.heap[L.c]?) (h : ObRel μ L w ob) : ObRel μ L w' ob := by
  cases ob with
  | cells t n el ro =>
    refine ⟨fun i hi => ?_, h.2.1, by rw [shape?_block e]; exact h.2.2.1, fun hr i => by rw [frozen?_block e]; exact h.2.2.2 hr i⟩
    obtain ⟨a, v, h1, h2, h3⟩ := h.1 i hi
    exact ⟨a, v, h1, by rw [cell?_block e]; exact h2, h3⟩
  | loop => obtain ⟨r, h1, rest⟩ := h; exact ⟨r, by rw [e]; exact h1, rest⟩
  | dfr => unfold ObRel at *; rw [e]; exact h
  | map => obtain ⟨es', h1, h2⟩ := h; exact ⟨es', by rw [e]; exact h1, h2⟩
  | iter => unfold ObRel at *; rw [e]; exact h
theorem ObRel.lt {μ : Mu} {L : Loc} {w : World} {ob : AO} (h : ObRel μ L w ob) : L.c < w.heap.size := by
  have key : ∀ o, w.heap[L.c]? = some o → L.c < w.heap.size := fun o ho => (Array.getElem?_eq_some_iff.1 ho).1
  cases ob with
  | cells t n el ro =>
    have := h.2.2.1
    unfold World.shape? at this
    cases e : w.heap[L.c]? with
    | none => simp [e] at this
    | some o => exact key o e
  | loop => obtain ⟨r, h1, _⟩ := h; exact key _ h1
  | dfr => exact key _ h
  | map => obtain ⟨r, h1, _⟩ := h; exact key _ h1
  | iter => exact key _ h
theorem cell_of_shape {w : World} {c tot i : Nat} {el : TypeId} (h : w.shape? c = some (el, tot)) (hi : i < tot) : ∃ v, w.cell? ⟨c, i, none⟩ = some v := by
  unfold World.shape? at h
  cases e : w.heap[c]? with
  | none => simp [e] at h
  | some o =>
    cases o <;> simp [e] at h
    rename_i cs el' fr
    obtain ⟨rfl, rfl⟩ := h
    exact ⟨cs[i], by simp [World.cell?, e, hi]⟩

/-- what a walk must leave alone: all that is below n; the blocks of S, which are as in w1 -/
structure Bd where
  n : Nat
  S : Nat → Prop
  w1 : World

structure Inv (C : Cfg) (B : Bd) (w0 : World) (μ : Mu) (h : H) (next : Nat) (w : World) : Prop where
  below : Below B.n w0 w
  size : B.n ≤ w.heap.size
  fresh : ∀ b, next ≤ b → μ b = none
  glob : ∀ g, C.gl g = true → ∃ tot, μ g = some ⟨g, tot⟩
  obj : ∀ b L ob, μ b = some L → h.get b = some ob → ObRel μ L w ob
  inj : ∀ b b' L L', μ b = some L → μ b' = some L' → (h.get b).isSome → (h.get b').isSome → L.c = L'.c → b = b'
  own : ∀ b L ob, μ b = some L → h.get b = some ob → ob.ro = false → B.n ≤ L.c
  keep : ∀ c, B.S c → c < w.heap.size ∧ w.heap[c]? = B.w1.heap[c]?
  out : ∀ b L ob, μ b = some L → h.get b = some ob → ¬ B.S L.c
  hfresh : ∀ b, next ≤ b → h.get b = none

/-- what a step may do -/
structure Ext (n0 : Nat) (μ : Mu) (h : H) (μ' : Mu) (h' : H) : Prop where
  le : μ.le μ'
  kept : ∀ b, b < n0 → μ b = none → μ' b = none ∧ h'.get b = h.get b
theorem Ext.refl (n0 : Nat) (μ : Mu) (h : H) : Ext n0 μ h μ h := ⟨Mu.le.refl _, fun _ _ h => ⟨h, rfl⟩⟩
theorem Ext.trans {n0 n1 : Nat} {μ μ1 μ2 : Mu} {h h1 h2 : H} (a : Ext n0 μ h μ1 h1) (hn : n0 ≤ n1) (b : Ext n1 μ1 h1 μ2 h2) : Ext n0 μ h μ2 h2 :=
  ⟨a.le.trans b.le, fun x hx hm => by
    obtain ⟨e1, e2⟩ := a.kept x hx hm
    obtain ⟨e3, e4⟩ := b.kept x (by omega) e1
    exact ⟨e3, e4.trans e2⟩⟩

section
variable {C : Cfg} {B : Bd} {w0 w : World} {μ : Mu} {h : H} {next : Nat}
theorem Inv.drew (I : Inv C B w0 μ h next w) : Inv C B w0 μ h next w.drew :=
  ⟨I.below.drew, I.size, I.fresh, I.glob, fun b L ob h1 h2 => (I.obj b L ob h1 h2).congr rfl, I.inj, I.own, I.keep, I.out, I.hfresh⟩
/-- a block set aside -/
theorem Inv.reserve (I : Inv C B w0 μ h next w) (ob : AO) : Inv C B w0 μ (h.put next ob) (next + 1) w := by
  have hn : ∀ b L, μ b = some L → b ≠ next := fun b L hb e => by rw [e, I.fresh next (Nat.le_refl _)] at hb; cases hb
  refine ⟨I.below, I.size, fun b hb => I.fresh b (by omega), I.glob, fun b L ob' h1 h2 => ?_, fun b b' L L' h1 h2 h3 h4 => ?_, fun b L ob' h1 h2 => ?_, I.keep, fun b L ob' h1 h2 => ?_, fun b hb => ?_⟩
  · rw [T.get_put, if_neg (hn b L h1)] at h2; exact I.obj b L ob' h1 h2
  · rw [T.get_put, if_neg (hn b L h1)] at h3; rw [T.get_put, if_neg (hn b' L' h2)] at h4; exact I.inj b b' L L' h1 h2 h3 h4
  · rw [T.get_put, if_neg (hn b L h1)] at h2; exact I.own b L ob' h1 h2
  · rw [T.get_put, if_neg (hn b L h1)] at h2; exact I.out b L ob' h1 h2
  · rw [T.get_put, if_neg (by omega)]; exact I.hfresh b (by omega)
def Mu.add (μ : Mu) (b : Nat) (L : Loc) : Mu := fun x => if x = b then some L else μ x
theorem Mu.le_add {b : Nat} (hb : μ b = none) (L : Loc) : μ.le (μ.add b L) := fun x L' hx => by
  unfold Mu.add; split
  · subst_vars; rw [hb] at hx; cases hx
  · exact hx
@[simp] theorem Mu.add_same (μ : Mu) (b : Nat) (L : Loc) : μ.add b L b = some L := by simp [Mu.add]
theorem Mu.add_other (μ : Mu) {b x : Nat} (L : Loc) (hx : x ≠ b) : μ.add b L x = μ x := by simp [Mu.add, hx]
/-- a block that was set aside is made -/
theorem Inv.commit (I : Inv C B w0 μ h next w) {b : Nat} {ob : AO} (hb : b < next) (hm : μ b = none) (hh : h.get b = some ob) (o : Obj) (tot : Nat)
    (hob : ObRel (μ.add b ⟨w.heap.size, tot⟩) ⟨w.heap.size, tot⟩ (w.alloc o) ob) : Inv C B w0 (μ.add b ⟨w.heap.size, tot⟩) h next (w.alloc o) := by
  have hle := Mu.le_add hm ⟨w.heap.size, tot⟩
  have old : ∀ c, c < w.heap.size → (w.alloc o).heap[c]? = w.heap[c]? := fun c hc => Below.heap_alloc _ _ _ hc
  refine ⟨I.below.alloc I.size o, by simp; exact Nat.le_succ_of_le I.size, fun x hx => ?_, fun g hg => ?_, fun x L ob' h1 h2 => ?_, fun x x' L L' h1 h2 h3 h4 e => ?_, fun x L ob' h1 h2 h3 => ?_, fun c hc => ?_, fun x L ob' h1 h2 hs => ?_, I.hfresh⟩
  · rw [Mu.add_other _ _ (by omega)]; exact I.fresh x hx
  · obtain ⟨t, ht⟩ := I.glob g hg; exact ⟨t, hle _ _ ht⟩
  · by_cases e : x = b
    · subst e; rw [Mu.add_same] at h1; cases h1; rw [hh] at h2; cases h2; exact hob
    · rw [Mu.add_other _ _ e] at h1
      have := I.obj x L ob' h1 h2
      exact (this.congr (old _ this.lt)).mono hle
  · by_cases e1 : x = b <;> by_cases e2 : x' = b
    · rw [e1, e2]
    · subst e1; rw [Mu.add_same] at h1; cases h1; rw [Mu.add_other _ _ e2] at h2
      obtain ⟨ob', ho⟩ := Option.isSome_iff_exists.1 h4
      have := (I.obj x' L' ob' h2 ho).lt; simp at e; omega
    · subst e2; rw [Mu.add_same] at h2; cases h2; rw [Mu.add_other _ _ e1] at h1
      obtain ⟨ob', ho⟩ := Option.isSome_iff_exists.1 h3
      have := (I.obj x L ob' h1 ho).lt; simp at e; omega
    · rw [Mu.add_other _ _ e1] at h1; rw [Mu.add_other _ _ e2] at h2; exact I.inj x x' L L' h1 h2 h3 h4 e
  · by_cases e : x = b
    · subst e; rw [Mu.add_same] at h1; cases h1; exact I.size
    · rw [Mu.add_other _ _ e] at h1; exact I.own x L ob' h1 h2 h3
  · obtain ⟨k1, k2⟩ := I.keep c hc
    exact ⟨by simp; omega, by rw [old c k1]; exact k2⟩
  · by_cases e : x = b
    · subst e; rw [Mu.add_same] at h1; cases h1
      have := (I.keep _ hs).1; simp at this
    · rw [Mu.add_other _ _ e] at h1; exact I.out x L ob' h1 h2 hs
/-- one object is turned -/
theorem Inv.turn (I : Inv C B w0 μ h next w) {b : Nat} {L : Loc} {ob ob' : AO} {w' : World} (hm : μ b = some L) (hh : h.get b = some ob) (hr : ob.ro = false)
    (hB : Below B.n w w') (hs : w.heap.size ≤ w'.heap.size) (ho : ∀ c, c ≠ L.c → c < w.heap.size → w'.heap[c]? = w.heap[c]?) (hob : ObRel μ L w' ob') : Inv C B w0 μ (h.put b ob') next w' := by
  refine ⟨I.below.trans hB, Nat.le_trans I.size hs, I.fresh, I.glob, fun x L' o1 h1 h2 => ?_, fun x x' L1 L2 h1 h2 h3 h4 e => ?_, fun x L' o1 h1 h2 h3 => ?_, fun c hc => ?_, fun x L' o1 h1 h2 hc => ?_, fun x hx => ?_⟩
  · rw [T.get_put] at h2
    by_cases e : x = b
    · subst e; rw [if_pos rfl] at h2; cases h2; rw [hm] at h1; cases h1; exact hob
    · rw [if_neg e] at h2
      have hx := I.obj x L' o1 h1 h2
      refine hx.congr (ho _ (fun e' => e ?_) hx.lt)
      exact I.inj x b L' L h1 hm (by simp [h2]) (by simp [hh]) e'
  · have k : ∀ y, ((h.put b ob').get y).isSome → (h.get y).isSome := fun y hy => by
      rw [T.get_put] at hy; by_cases e : y = b
      · subst e; simp [hh]
      · rwa [if_neg e] at hy
    exact I.inj x x' L1 L2 h1 h2 (k x h3) (k x' h4) e
  · rw [T.get_put] at h2
    by_cases e : x = b
    · subst e; rw [hm] at h1; cases h1; exact I.own x L ob hm hh hr
    · rw [if_neg e] at h2; exact I.own x L' o1 h1 h2 h3
  · obtain ⟨k1, k2⟩ := I.keep c hc
    exact ⟨by omega, by rw [ho c (fun e => I.out b L ob hm hh (e ▸ hc)) k1]; exact k2⟩
  · rw [T.get_put] at h2
    by_cases e : x = b
    · subst e; rw [hm] at h1; cases h1; exact I.out x L ob hm hh hc
    · rw [if_neg e] at h2; exact I.out x L' o1 h1 h2 hc
  · have : x ≠ b := fun e => by rw [← e, I.hfresh x hx] at hh; cases hh
    rw [T.get_put, if_neg this]; exact I.hfresh x hx
/-- a block is given up -/
theorem Inv.kill (I : Inv C B w0 μ h next w) (b : Nat) : Inv C B w0 μ (h.del b) next w := by
  have k : ∀ y ob, (h.del b).get y = some ob → h.get y = some ob := fun y ob hy => by
    rw [T.get_del] at hy; split at hy
    · cases hy
    · exact hy
  have k' : ∀ y, ((h.del b).get y).isSome → (h.get y).isSome := fun y hy => by
    obtain ⟨o, ho⟩ := Option.isSome_iff_exists.1 hy; rw [k y o ho]; rfl
  exact ⟨I.below, I.size, I.fresh, I.glob, fun x L o h1 h2 => I.obj x L o h1 (k _ _ h2), fun x x' L L' h1 h2 h3 h4 e => I.inj x x' L L' h1 h2 (k' _ h3) (k' _ h4) e, fun x L o h1 h2 h3 => I.own x L o h1 (k _ _ h2) h3, I.keep, fun x L o h1 h2 => I.out x L o h1 (k _ _ h2), fun x hx => by rw [T.get_del]; split <;> simp [I.hfresh x hx]⟩
end

end Go.Ax
set_option linter.unusedVariables false
set_option linter.unusedSimpArgs false
namespace Go.Ax
open Go Go.RowKit

theorem sev_run (P : Program) {α : Type} : ∀ (s : Sem α) (a : α), sev P s = some a → ∀ w, s.run P w = .ok a w := by
  intro s
  induction s with
  | pure x => intro a h w; simp [sev] at h; subst h; rfl
  | program k ih => intro a h w; exact ih P a (by simpa [sev] using h) w
  | mark m k ih => intro a h w; exact ih a (by simpa [sev] using h) w
  | _ => intro a h w; simp [sev] at h

section
variable {P : Program}
theorem run_szT {t : TypeId} {s : Nat} (h : szT P t = some s) (w : World) : (sizeOf t).run P w = .ok s w := by
  unfold szT at h
  cases e : P.info? t with
  | none => simp [e] at h
  | some i => simp [e] at h; simp [sizeOf, typeInfo, e, h]
theorem run_bytesT {t : TypeId} {s : Nat} (h : bytesT P t = some s) (w : World) : ∃ i, (typeInfo t).run P w = .ok i w ∧ i.bytes = s := by
  unfold bytesT at h
  cases e : P.info? t with
  | none => simp [e] at h
  | some i => simp [e] at h; exact ⟨i, by simp [typeInfo, e], h⟩
theorem run_und {t : TypeId} {d : TypeDesc} (h : P.underlying t = some d) (w : World) : (underlying t).run P w = .ok d w := by simp [underlying, h]
theorem run_aggT {t : TypeId} {b : Bool} (h : isAggT P t = some b) (w : World) : (isAgg t).run P w = .ok b w := by
  unfold isAggT at h
  cases e : P.underlying t with
  | none => simp [e] at h
  | some d => cases d <;> simp [e] at h <;> subst h <;> simp [isAgg, run_und e]
theorem run_zeroT {t : TypeId} {z : AV} (h : zeroT P t = some z) (w : World) : ∃ v, (zeroValue t).run P w = .ok v w ∧ z = ofV v := by
  unfold zeroT at h
  cases e : P.info? t with
  | none => simp [e] at h
  | some i =>
    simp [e] at h
    cases e2 : i.zero with
    | none => simp [e2] at h
    | some v => simp [e2] at h; exact ⟨v, by simp [zeroValue, typeInfo, e, e2], h.symm⟩
end

/-- the operands stand for what the machine holds -/
def ER (μ : Mu) (ρ : Env) (e : Operand → Value) (xs : List Operand) : Prop := ∀ x ∈ xs, ∀ a, ρ x = some a → VRel μ a (e x)

section
variable {μ : Mu} {ρ : Env} {e : Operand → Value}
theorem evs_rel : ∀ {l : List Operand} {vs : List AV}, evs ρ l = some vs → ER μ ρ e l → VRels μ vs (l.map e)
  | [], vs, h, _ => by simp [evs] at h; subst h; exact .nil
  | x :: l, vs, h, r => by
    simp only [evs] at h
    cases h1 : ρ x with
    | none => simp [h1] at h
    | some a =>
      cases h2 : evs ρ l with
      | none => simp [h1, h2] at h
      | some as =>
        simp [h1, h2] at h; subst h
        exact .cons (r x (by simp) a h1) (evs_rel h2 fun y hy => r y (by simp [hy]))
theorem evs_mem : ∀ {l : List Operand} {vs : List AV}, evs ρ l = some vs → ∀ {us : List Value}, litsOf vs = some us → ∀ x ∈ l, ∃ a u, ρ x = some a ∧ litOf a = some u
  | [], vs, h, us, hu, x, hx => by simp at hx
  | y :: l, vs, h, us, hu, x, hx => by
    simp only [evs] at h
    cases h1 : ρ y with
    | none => simp [h1] at h
    | some a =>
      cases h2 : evs ρ l with
      | none => simp [h1, h2] at h
      | some as =>
        simp [h1, h2] at h; subst h
        simp only [litsOf] at hu
        cases h3 : litOf a with
        | none => simp [h3] at hu
        | some u =>
          cases h4 : litsOf as with
          | none => simp [h3, h4] at hu
          | some us' =>
            simp at hx
            rcases hx with rfl | hx
            · exact ⟨a, u, h1, h3⟩
            · exact evs_mem h2 h4 x hx
theorem evParts_rel : ∀ {l : List (Nat × Operand)} {ps : List (Nat × AV)}, evParts ρ l = some ps → ER μ ρ e (l.map (·.2)) →
    ∃ qs : List (Nat × Value), (l.map fun p => (p.1, e p.2)) = qs ∧ ps.length = qs.length ∧ ∀ (i : Nat) p q, ps[i]? = some p → qs[i]? = some q → p.1 = q.1 ∧ VRel μ p.2 q.2
  | [], ps, h, _ => by simp [evParts] at h; subst h; exact ⟨[], rfl, rfl, fun i p q h1 => by simp at h1⟩
  | (i, x) :: l, ps, h, r => by
    simp only [evParts] at h
    cases h1 : ρ x with
    | none => simp [h1] at h
    | some a =>
      cases h2 : evParts ρ l with
      | none => simp [h1, h2] at h
      | some as =>
        simp [h1, h2] at h; subst h
        obtain ⟨qs, h3, h4, h5⟩ := evParts_rel h2 (fun y hy => r y (by simp at hy ⊢; exact .inr hy))
        refine ⟨(i, e x) :: qs, by simp [← h3], by simp [h4], fun j p q hp hq => ?_⟩
        cases j with
        | zero => simp at hp hq; subst hp; subst hq; exact ⟨rfl, r x (by simp) a h1⟩
        | succ j => simp at hp hq; exact h5 j p q hp hq

theorem pureLit_ok {C : Cfg} {o : Oper} {v : AV} (h : pureLit C ρ o = some v) (r : ER μ ρ e o.op.operands.toList) (w : World) :
    ∃ v', VRel μ v v' ∧ (execOp e o).run C.P w = .ok (.value v') w := by
  have hs : ∀ cs b, o.op ≠ .select cs b := by
    intro cs b hh; simp [pureLit, hh] at h
  have h' : (match evs ρ o.op.operands.toList with
      | none => none
      | some vs => match litsOf vs with
        | none => none
        | some _ => nextVal (sev C.P (execOp (litD ρ) o))) = some v := by
    unfold pureLit at h
    split at h
    · cases h
    · exact h
  cases h1 : evs ρ o.op.operands.toList with
  | none => simp [h1] at h'
  | some vs =>
    cases h2 : litsOf vs with
    | none => simp [h1, h2] at h'
    | some us =>
      simp only [h1, h2] at h'
      have hc : execOp (litD ρ) o = execOp e o := execOp_congr o hs fun x hx => by
        obtain ⟨a, u, ha, hu⟩ := evs_mem h1 h2 x (Array.mem_toList_iff.2 hx)
        have := litOf_rel hu (r x (Array.mem_toList_iff.2 hx) a ha)
        simp [litD, ha, hu, this]
      rw [hc] at h'
      cases h3 : sev C.P (execOp e o) with
      | none => simp [h3, nextVal] at h'
      | some n =>
        cases n <;> simp [h3, nextVal] at h'
        subst h'
        exact ⟨_, VRel.ofV _, sev_run C.P _ _ h3 w⟩
end

section
variable {C : Cfg} {B : Bd} {w0 w : World} {μ : Mu} {h : H} {next : Nat}

theorem blt_lt {a b : Nat} (h : Nat.blt a b = true) : a < b := by
  have : a + 1 ≤ b := by simpa [Nat.blt] using h
  omega
theorem rdCells_ok {c : T AV} {L : Loc} {n : Nat} (hc : CellsRel μ c n L w) : ∀ (k i : Nat) (l : List AV), rdCells c i k = some l → i + k ≤ n →
    ∃ vs : List Value, VRels μ l vs ∧ vs.length = k ∧ ∀ (j : Nat) (v : Value), vs[j]? = some v → w.cell? ⟨L.c, i + j, none⟩ = some v
  | 0, i, l, hl, _ => by simp [rdCells] at hl; subst hl; exact ⟨[], .nil, rfl, fun j v hv => by simp at hv⟩
  | k + 1, i, l, hl, hn => by
    simp only [rdCells] at hl
    obtain ⟨a, v, ha, hv, hr⟩ := hc i (by omega)
    rw [ha] at hl
    cases h2 : rdCells c (Nat.succ i) k with
    | none => simp [h2] at hl
    | some m =>
      simp [h2] at hl; subst hl
      obtain ⟨vs, h3, h4, h5⟩ := rdCells_ok hc k (i + 1) m h2 (by omega)
      refine ⟨v :: vs, .cons hr h3, by simp [h4], fun j u hu => ?_⟩
      cases j with
      | zero => simp at hu; subst hu; simpa using hv
      | succ j => simp at hu; have := h5 j u hu; rwa [show i + (j + 1) = i + 1 + j by omega]
theorem add_mk (c off j : Nat) : (⟨c, off, none⟩ : Addr).add j = ⟨c, off + j, none⟩ := by unfold Addr.add; split <;> simp_all

theorem aload_ok {t : TypeId} {b off : Nat} {v : AV} (hl : aload C.P h t b off = some v) (I : Inv C B w0 μ h next w) {L : Loc} (hm : μ b = some L) :
    ∃ v', VRel μ v v' ∧ (loadVar t ⟨L.c, off, none⟩).run C.P w = .ok v' w := by
  unfold aload at hl
  cases h1 : h.get b with
  | none => simp [h1] at hl
  | some ob =>
    cases ob with
    | cells c n el ro =>
      have hob := I.obj b L _ hm h1
      cases h2 : isAggT C.P t with
      | none => simp [h1, h2] at hl
      | some g =>
        cases g with
        | true =>
          simp only [h1, h2, aloadAgg, Nat.add_eq] at hl
          cases h3 : szT C.P t with
          | none => simp [h3] at hl
          | some s =>
            simp only [h3] at hl
            cases h4 : Nat.ble (off + s) n with
            | false => simp [h4] at hl
            | true =>
              simp only [h4] at hl
              cases h5 : rdCells c off s with
              | none => simp [h5] at hl
              | some l =>
                simp [h5] at hl; subst hl
                obtain ⟨vs, r1, r2, r3⟩ := rdCells_ok hob.1 s off l h5 (Nat.le_of_ble_eq_true h4)
                refine ⟨_, .agg r1, ?_⟩
                have := run_loadCells_list (P := C.P) w ⟨L.c, off, none⟩ vs (fun j v hv => by rw [add_mk]; exact r3 j v hv)
                simp [loadVar, run_aggT h2, run_szT h3, ← r2, this]
        | false =>
          simp only [h1, h2, aload1] at hl
          cases h4 : Nat.blt off n with
          | false => simp [h4] at hl
          | true =>
            simp only [h4] at hl
            obtain ⟨a, u, ha, hu, hr⟩ := hob.1 off (blt_lt h4)
            rw [ha] at hl; cases hl
            exact ⟨u, hr, by simp [loadVar, run_aggT h2, hu]⟩
    | _ => simp [h1] at hl
end
end Go.Ax
set_option linter.unusedVariables false
set_option linter.unusedSimpArgs false
namespace Go.Ax
open Go Go.RowKit

/-- what a quiet operation must come to -/
def FOk (C : Cfg) (μ : Mu) (w : World) (e : Operand → Value) (o : Oper) (v : AV) : Prop := ∃ v', VRel μ v v' ∧ (execOp e o).run C.P w = .ok (.value v') w

theorem natOf_eq {v : AV} {n : Nat} (h : natOf v = some n) : ∃ k, v = .lit (.int k (n : Int)) := by
  cases v with
  | lit u =>
    cases u with
    | int k m => cases m <;> simp [natOf] at h; subst h; exact ⟨k, rfl⟩
    | _ => simp [natOf] at h
  | _ => simp [natOf] at h

section ints
theorem blt_dec (a b : Nat) : Nat.blt a b = decide (a < b) := by rw [Bool.eq_iff_iff]; simp [Nat.blt_eq]
theorem beq_dec (a b : Nat) : Nat.beq a b = decide (a = b) := by rw [Bool.eq_iff_iff]; simp
theorem wrap_eq (k : IntKind) (n : Int) : k.wrap n = if (lim k : Int) ≤ n % (full k : Int) then n % (full k : Int) - full k else n % (full k : Int) := by
  cases k <;> simp [IntKind.wrap, IntKind.bits, IntKind.signed, lim, full] <;> omega
theorem wrapN_eq (k : IntKind) (m : Nat) : wrapN k m = k.wrap (m : Int) := by
  have h1 : Nat.mod m (full k) = m % full k := rfl
  have h2 : ((m : Int) % (full k : Int)) = ((m % full k : Nat) : Int) := by simp
  rw [wrap_eq, h2]
  unfold wrapN
  simp only [blt_dec, h1]
  by_cases h : m < lim k
  · have : m % full k = m := Nat.mod_eq_of_lt (Nat.lt_of_lt_of_le h (by cases k <;> simp [lim, full]))
    simp [h, this]; omega
  · by_cases h' : m % full k < lim k
    · simp [h, h']; omega
    · have : m % full k < full k := Nat.mod_lt _ (by cases k <;> simp [full])
      simp [h, h']
      have hf : 0 < full k := by cases k <;> simp [full]
      omega
theorem wrapF_eq (k : IntKind) (n : Int) : wrapF k n = k.wrap n := by
  cases n with
  | ofNat m => exact wrapN_eq k m
  | negSucc m =>
    simp only [wrapF]
    split
    · rename_i h1 h2
      have h2' := blt_lt h2
      rw [beq_dec] at h1
      have hc : (lim k : Int) ≤ (-((m : Int) + 1)) % (full k : Int) ∧ (-((m : Int) + 1)) % (full k : Int) - full k = -((m : Int) + 1) := by
        cases k <;> simp [lim, full] at h1 h2' ⊢ <;> omega
      rw [wrap_eq, Int.negSucc_eq, if_pos hc.1, hc.2]
    · rfl
theorem ltI_eq (a b : Int) : ltI a b = decide (a < b) := by
  cases a <;> cases b <;> simp [ltI, blt_dec] <;> omega
theorem eqI_eq (a b : Int) : eqI a b = decide (a = b) := by
  cases a <;> cases b <;> simp [eqI, beq_dec] <;> omega
theorem land_lt {a b n : Nat} (h : a < n) : a &&& b < n := Nat.lt_of_le_of_lt Nat.and_le_left h
theorem lor_lt {k : IntKind} {a b : Nat} (h : a < lim k) (h' : b < lim k) : a ||| b < lim k := by
  cases k <;> first
    | exact Nat.or_lt_two_pow (n := 7) h h' | exact Nat.or_lt_two_pow (n := 15) h h' | exact Nat.or_lt_two_pow (n := 31) h h' | exact Nat.or_lt_two_pow (n := 63) h h'
    | exact Nat.or_lt_two_pow (n := 8) h h' | exact Nat.or_lt_two_pow (n := 16) h h' | exact Nat.or_lt_two_pow (n := 32) h h' | exact Nat.or_lt_two_pow (n := 64) h h'
theorem wrap_small {k : IntKind} {a : Nat} (h : a < lim k) : k.wrap (a : Int) = (a : Int) := by
  rw [← wrapN_eq]; unfold wrapN; simp [blt_dec, h]
theorem bv_nat (k : IntKind) {a : Nat} (h : a < lim k) : (BitVec.ofInt k.bits (a : Int)).toNat = a := by
  have : lim k ≤ 2 ^ k.bits := by cases k <;> simp [lim, IntKind.bits]
  simp [BitVec.toNat_ofInt]
  exact Nat.mod_eq_of_lt (by omega)
end ints
end Go.Ax
set_option linter.unusedVariables false
set_option linter.unusedSimpArgs false
namespace Go.Ax
open Go Go.RowKit
section
variable {C : Cfg} {B : Bd} {w0 w : World} {μ : Mu} {h : H} {next : Nat} {ρ : Env} {e : Operand → Value}

theorem run_binOp_int {op : BinOp} {k : IntKind} {a b : Int} {u : Value} {t : TypeId} (hf : intFast op k a b = some u) (hs : op ≠ .shl ∧ op ≠ .shr) (w : World) :
    (binOp op t (.int k a) (.int k b)).run C.P w = .ok u w := by
  cases op <;> simp [intFast] at hf <;> (try (exact absurd rfl hs.1)) <;> (try (exact absurd rfl hs.2))
  case add => subst hf; simp [binOp, Op.intArith, wrapF_eq]
  case sub => subst hf; simp [binOp, Op.intArith, wrapF_eq]; rfl
  case mul => subst hf; simp [binOp, Op.intArith, wrapF_eq]
  case eql => subst hf; simp [binOp, Op.intCmp, eqI_eq]; rfl
  case neq => subst hf; simp [binOp, Op.intCmp, eqI_eq]; rfl
  case lss => subst hf; simp [binOp, Op.intCmp, ltI_eq]
  case leq => subst hf; simp [binOp, Op.intCmp, ltI_eq]; rw [Bool.eq_iff_iff]; simp
  case gtr => subst hf; simp [binOp, Op.intCmp, ltI_eq]
  case geq => subst hf; simp [binOp, Op.intCmp, ltI_eq]; rw [Bool.eq_iff_iff]; simp
  case quo =>
    cases a with
    | negSucc => simp at hf
    | ofNat x =>
      cases b with
      | negSucc => simp at hf
      | ofNat y =>
        cases y with
        | zero => simp at hf
        | succ y =>
          simp at hf; subst hf
          have : ((x : Int)).tdiv ((y + 1 : Nat) : Int) = ((x / (y + 1) : Nat) : Int) := by
            rw [Int.tdiv_eq_ediv_of_nonneg (by omega)]; simp
          simp [binOp, Op.intDiv, wrapN_eq]
          rw [if_neg (by omega)]
          have e : ((x.div (y + 1) : Nat) : Int) = (x : Int) / ((y : Int) + 1) := by show ((x / (y + 1) : Nat) : Int) = _; simp
          rw [e]
  case rem =>
    cases a with
    | negSucc => simp at hf
    | ofNat x =>
      cases b with
      | negSucc => simp at hf
      | ofNat y =>
        cases y with
        | zero => simp at hf
        | succ y =>
          simp at hf; subst hf
          have this' : ((x : Int)).tmod ((y : Int) + 1) = ((x % (y + 1) : Nat) : Int) := by
            rw [Int.tmod_eq_emod_of_nonneg (by omega)]; simp
          simp [binOp, Op.intDiv]
          have e : ((x.mod (y + 1) : Nat) : Int) = (x : Int) % ((y : Int) + 1) := by show ((x % (y + 1) : Nat) : Int) = _; simp
          rw [if_neg (by omega), e, Int.tmod_eq_emod_of_nonneg (by omega)]
  case and =>
    cases a with
    | negSucc => simp at hf
    | ofNat x =>
      cases b with
      | negSucc => simp at hf
      | ofNat y =>
        cases h1 : Nat.blt x (lim k) <;> cases h2 : Nat.blt y (lim k) <;> simp [h1, h2] at hf
        subst hf
        have e1 := bv_nat k (blt_lt h1)
        have e2 := bv_nat k (blt_lt h2)
        simp only [Int.ofNat_eq_natCast] at *
        have := wrap_small (k := k) (land_lt (b := y) (blt_lt h1))
        have e3 : (BitVec.ofInt k.bits (x : Int) &&& BitVec.ofInt k.bits (y : Int)).toNat = x &&& y := by rw [BitVec.toNat_and, e1, e2]
        simp only [binOp, Op.intBits, ne_eq, not_true_eq_false, if_false, Sem.run_pure]
        rw [e3, this]
  case or =>
    cases a with
    | negSucc => simp at hf
    | ofNat x =>
      cases b with
      | negSucc => simp at hf
      | ofNat y =>
        cases h1 : Nat.blt x (lim k) <;> cases h2 : Nat.blt y (lim k) <;> simp [h1, h2] at hf
        subst hf
        have e1 := bv_nat k (blt_lt h1)
        have e2 := bv_nat k (blt_lt h2)
        simp only [Int.ofNat_eq_natCast] at *
        have := wrap_small (k := k) (lor_lt (blt_lt h1) (blt_lt h2))
        have e3 : (BitVec.ofInt k.bits (x : Int) ||| BitVec.ofInt k.bits (y : Int)).toNat = x ||| y := by rw [BitVec.toNat_or, e1, e2]
        simp only [binOp, Op.intBits, ne_eq, not_true_eq_false, if_false, Sem.run_pure]
        rw [e3, this]
theorem run_shift {op : BinOp} {j k : IntKind} {a b : Int} {u : Value} {t : TypeId} (hf : shFast op j a b = some u) (w : World) :
    (binOp op t (.int j a) (.int k b)).run C.P w = .ok u w := by
  cases op <;> simp [shFast] at hf
  case shl =>
    cases a with
    | negSucc => simp at hf
    | ofNat x =>
      cases b with
      | negSucc => simp at hf
      | ofNat n =>
        cases h1 : Nat.ble n j.bits <;> simp [h1] at hf
        subst hf
        have hm : min n j.bits = n := Nat.min_eq_left (Nat.le_of_ble_eq_true h1)
        simp [binOp, Op.shift, wrapN_eq, hm]
        intro hn; omega
  case shr =>
    cases a with
    | negSucc => simp at hf
    | ofNat x =>
      cases b with
      | negSucc => simp at hf
      | ofNat n =>
        cases h1 : Nat.ble n j.bits <;> simp [h1] at hf
        subst hf
        have hm : min n j.bits = n := Nat.min_eq_left (Nat.le_of_ble_eq_true h1)
        have e : ((x.div (2 ^ n) : Nat) : Int) = (x : Int) / 2 ^ n := by show ((x / 2 ^ n : Nat) : Int) = _; simp
        simp [binOp, Op.shift, hm]
        rw [if_neg (by omega), e, Int.fdiv_eq_ediv_of_nonneg _ (Int.le_of_lt (Int.pow_pos (by decide)))]
end
end Go.Ax
set_option linter.unusedVariables false
set_option linter.unusedSimpArgs false
namespace Go.Ax
open Go Go.RowKit
section
variable {C : Cfg} {B : Bd} {w0 w : World} {μ : Mu} {h : H} {next : Nat} {ρ : Env} {e : Operand → Value}

theorem FOk.mk {o : Oper} {v : AV} {s : Sem Value} (v' : Value) (hr : VRel μ v v') (he : execOp e o = do pure (.value (← s))) (hs : s.run C.P w = .ok v' w) : FOk C μ w e o v :=
  ⟨v', hr, by rw [he]; simp [hs]⟩

theorem VRel.ptr_inv {b off : Nat} {v : Value} (h : VRel μ (.ptr b off) v) : ∃ L, μ b = some L ∧ v = .pointer (some ⟨L.c, off, none⟩) := by cases h with | ptr h => exact ⟨_, h, rfl⟩
theorem VRel.lit_inv {u v : Value} (h : VRel μ (.lit u) v) : v = u := by cases h; rfl
theorem VRel.agg_inv {l : List AV} {v : Value} (h : VRel μ (.agg l) v) : ∃ l', VRels μ l l' ∧ v = .agg l'.toArray := by cases h with | agg h => exact ⟨_, h, rfl⟩
theorem VRel.tup_inv {l : List AV} {v : Value} (h : VRel μ (.tup l) v) : ∃ l', VRels μ l l' ∧ v = .tuple l'.toArray := by cases h with | tup h => exact ⟨_, h, rfl⟩
theorem VRel.sl_inv {b off len cap esz : Nat} {ex : Bool} {v : Value} (h : VRel μ (.sl b off len cap esz ex) v) :
    ∃ L cap', μ b = some L ∧ cap ≤ cap' ∧ (ex = true → cap' = cap) ∧ len ≤ cap ∧ off + cap' * esz ≤ L.tot ∧ v = .slice (some ⟨L.c, off, none⟩) len cap' := by
  cases h with | sl h h1 h2 h3 h4 => exact ⟨_, _, h, h1, h2, h3, h4, rfl⟩
theorem VRel.map_inv {b : Nat} {v : Value} (h : VRel μ (.map b) v) : ∃ L, μ b = some L ∧ v = .map (some L.c) := by cases h with | map h => exact ⟨_, h, rfl⟩
theorem VRel.sl0_inv {v : Value} (h : VRel μ .sl0 v) : ∃ a c, v = .slice (some a) 0 c := by cases h with | sl0 a c => exact ⟨a, c, rfl⟩

theorem fPick_ok {c a b : Operand} {ty : TypeId} {d : Option Tmp} {pos : String} {af : Array Edge} {g} {v : AV}
    (hv : fPick (ρ c) (ρ a) (ρ b) = some v) (r : ER μ ρ e [c, a, b]) : FOk C μ w e ⟨d, .pick c a b, ty, pos, af, g⟩ v := by
  unfold fPick at hv
  split at hv
  · rename_i hc
    have := (r c (by simp) _ hc).lit_inv
    exact ⟨e a, r a (by simp) v hv, by simp [execOp, this, asBool]⟩
  · rename_i hc
    have := (r c (by simp) _ hc).lit_inv
    exact ⟨e b, r b (by simp) v hv, by simp [execOp, this, asBool]⟩
  · cases hv

theorem fLoad_ok {t : TypeId} {a : Operand} {ty : TypeId} {d : Option Tmp} {pos : String} {af : Array Edge} {g} {v : AV}
    (hv : fLoad C h t (ρ a) = some v) (r : ER μ ρ e [a]) (I : Inv C B w0 μ h next w) : FOk C μ w e ⟨d, .load t a, ty, pos, af, g⟩ v := by
  unfold fLoad at hv
  split at hv
  · rename_i b off hb
    obtain ⟨L, hL, hx⟩ := (r a (by simp) _ hb).ptr_inv
    obtain ⟨v', hr, hl⟩ := aload_ok hv I hL
    exact ⟨v', hr, by simp [execOp, hx, Instr.loadAt, Instr.sureAddr, hl]⟩
  · cases hv

theorem fNil_ok {x : Operand} {ty : TypeId} {d : Option Tmp} {pos : String} {af : Array Edge} {g} {v : AV}
    (hv : fNil (ρ x) = some v) (r : ER μ ρ e [x]) : FOk C μ w e ⟨d, .nilCheck x, ty, pos, af, g⟩ v := by
  unfold fNil at hv
  split at hv
  · rename_i b off hb
    obtain ⟨L, hL, hx⟩ := (r x (by simp) _ hb).ptr_inv
    cases hv
    exact ⟨e x, r x (by simp) _ hb, by simp [execOp, hx]⟩
  · rename_i f l c hb
    have hr := r x (by simp) _ hb
    cases hv
    refine ⟨e x, hr, ?_⟩
    generalize hx : e x = vx at hr
    cases hr with
    | fn _ h1 h2 => simp [execOp, hx]
  · rename_i b hb
    have hr := r x (by simp) _ hb
    cases hv
    refine ⟨e x, hr, ?_⟩
    generalize hx : e x = vx at hr
    cases hr with
    | yld h1 => simp [execOp, hx]
  · cases hv

theorem offOf_ok {s : TypeId} {f k : Nat} (hk : offOf C f s = some k) {x : Value} {c off : Nat} (hx : x = .pointer (some ⟨c, off, none⟩)) (w : World) :
    (Instr.fieldAt s x f).run C.P w = .ok (.pointer (some ⟨c, off + k, none⟩)) w := by
  unfold offOf at hk
  split at hk
  · rename_i fields hu
    split at hk
    · rename_i fd hf
      split at hk
      · rename_i n hs
        cases hk
        have := run_szT hs w
        simp [Instr.fieldAt, run_und hu, hf, hx, Instr.sureAddr, fieldPlace, this, add_mk]
      · cases hk
    · cases hk
  · cases hk

theorem fFieldAddr_ok {s : TypeId} {x : Operand} {f : Nat} {ty : TypeId} {d : Option Tmp} {pos : String} {af : Array Edge} {g} {v : AV}
    (hv : fFieldAddr (ρ x) (offOf C f s) = some v) (r : ER μ ρ e [x]) : FOk C μ w e ⟨d, .fieldAddr s x f, ty, pos, af, g⟩ v := by
  unfold fFieldAddr at hv
  split at hv
  · rename_i k hk
    split at hv
    · rename_i b off hb
      obtain ⟨L, hL, hx⟩ := (r x (by simp) _ hb).ptr_inv
      cases hv
      exact ⟨_, .ptr hL, by simp [execOp, offOf_ok hk hx]⟩
    · cases hv
  · cases hv

theorem apart_ok {t : TypeId} {cs : List AV} {off : Nat} {v : AV} (hv : apart C.P t cs off = some v) {l : List Value} (hr : VRels μ cs l) (w : World) :
    ∃ v', VRel μ v v' ∧ (part t l.toArray off).run C.P w = .ok v' w := by
  unfold apart at hv
  split at hv
  · rename_i ha
    split at hv
    · rename_i s hs
      split at hv
      · cases hv
        refine ⟨.agg (l.toArray.extract off (off + s)), ?_, by simp [part, run_aggT ha, run_szT hs]⟩
        have := VRel.agg ((hr.drop off).take s)
        have e2 : ((l.drop off).take s).toArray = l.toArray.extract off (off + s) := by
          apply Array.ext'; simp [List.take_drop, Nat.add_comm]
        rwa [e2] at this
      · cases hv
    · cases hv
  · rename_i ha
    obtain ⟨u, hu, hur⟩ := hr.get hv
    exact ⟨u, hur, by simp [part, run_aggT ha, hu]⟩
  · cases hv

theorem fField_ok {t : TypeId} {x : Operand} {f : Nat} {ty : TypeId} {d : Option Tmp} {pos : String} {af : Array Edge} {g} {v : AV}
    (hv : fField C t f (ρ x) = some v) (r : ER μ ρ e [x]) : FOk C μ w e ⟨d, .field t x f, ty, pos, af, g⟩ v := by
  unfold fField at hv
  split at hv
  · rename_i cs hb
    obtain ⟨l, hl, hx⟩ := (r x (by simp) _ hb).agg_inv
    unfold fField1 at hv
    split at hv
    · rename_i fields hu
      split at hv
      · rename_i fd hf
        obtain ⟨v', h1, h2⟩ := apart_ok hv hl w
        exact ⟨v', h1, by simp [execOp, Instr.field, run_und hu, hf, hx, asAgg, h2]⟩
      · cases hv
    · cases hv
  · cases hv

theorem run_indexAt_sl {t elem : TypeId} {c off len cap n s : Nat} {k : IntKind} (hu : C.P.underlying t = some (.slice elem)) (hs : szT C.P elem = some s) (hn : n < len) (w : World) :
    (Instr.indexAt t (.slice (some ⟨c, off, none⟩) len cap) (.int k (n : Int))).run C.P w = .ok (.pointer (some ⟨c, off + n * s, none⟩)) w := by
  simp [Instr.indexAt, run_und hu, asIntOf, run_szT hs, hn, add_mk]
theorem run_indexAt_arr {t elem : TypeId} {c off len n s : Nat} {k : IntKind} (hu : C.P.underlying t = some (.array len elem)) (hs : szT C.P elem = some s) (hn : n < len) (w : World) :
    (Instr.indexAt t (.pointer (some ⟨c, off, none⟩)) (.int k (n : Int))).run C.P w = .ok (.pointer (some ⟨c, off + n * s, none⟩)) w := by
  simp [Instr.indexAt, run_und hu, asIntOf, run_szT hs, hn, add_mk, Instr.sureAddr]

theorem idx_inv {b off len n : Nat} {s : Option Nat} {v : AV} (hv : idx b off len n s = some v) : ∃ k, s = some k ∧ n < len ∧ v = .ptr b (off + n * k) := by
  unfold idx at hv
  split at hv
  · split at hv
    · rename_i hb; cases hv; exact ⟨_, rfl, blt_lt hb, rfl⟩
    · cases hv
  · cases hv
theorem fIndexAddr_ok {t : TypeId} {x i : Operand} {ty : TypeId} {d : Option Tmp} {pos : String} {af : Array Edge} {g} {v : AV}
    (hv : fIndexAddr C t (ρ x) (ρ i) = some v) (r : ER μ ρ e [x, i]) : FOk C μ w e ⟨d, .indexAddr t x i, ty, pos, af, g⟩ v := by
  unfold fIndexAddr at hv
  split at hv
  · rename_i b off len _ _ _ k n hx hi
    obtain ⟨L, cap', hL, _, _, _, _, ex⟩ := (r x (by simp) _ hx).sl_inv
    have ei := (r i (by simp) _ hi).lit_inv
    split at hv
    · rename_i elem hu
      obtain ⟨s, hs, hn, rfl⟩ := idx_inv hv
      exact ⟨_, .ptr hL, by simp only [execOp, ex, ei]; simp [run_indexAt_sl hu hs hn]⟩
    · cases hv
  · rename_i b off k n hx hi
    obtain ⟨L, hL, ex⟩ := (r x (by simp) _ hx).ptr_inv
    have ei := (r i (by simp) _ hi).lit_inv
    split at hv
    · rename_i len elem hu
      obtain ⟨s, hs, hn, rfl⟩ := idx_inv hv
      exact ⟨_, .ptr hL, by simp only [execOp, ex, ei]; simp [run_indexAt_arr hu hs hn]⟩
    · cases hv
  · cases hv

theorem fIndex_ok {t : TypeId} {x i : Operand} {ty : TypeId} {d : Option Tmp} {pos : String} {af : Array Edge} {g} {v : AV}
    (hv : fIndex C ρ ⟨d, .index t x i, ty, pos, af, g⟩ t (ρ x) (ρ i) = some v) (r : ER μ ρ e [x, i]) : FOk C μ w e ⟨d, .index t x i, ty, pos, af, g⟩ v := by
  unfold fIndex at hv
  split at hv
  · rename_i cs k n hx hi
    obtain ⟨l, hl, ex⟩ := (r x (by simp) _ hx).agg_inv
    have ei := (r i (by simp) _ hi).lit_inv
    split at hv
    · rename_i len elem hu
      split at hv
      · rename_i s hs
        split at hv
        · rename_i hn
          obtain ⟨v', h1, h2⟩ := apart_ok hv hl w
          exact ⟨v', h1, by simp only [execOp, ex, ei]; simp [Instr.index, run_und hu, asIntOf, run_szT hs, blt_lt hn, h2]⟩
        · cases hv
      · cases hv
    · cases hv
  · exact pureLit_ok hv (by simpa [Op.operands] using r) w
  · cases hv

theorem fExtract_ok {t : Operand} {i : Nat} {ty : TypeId} {d : Option Tmp} {pos : String} {af : Array Edge} {g} {v : AV}
    (hv : fExtract i (ρ t) = some v) (r : ER μ ρ e [t]) : FOk C μ w e ⟨d, .extract t i, ty, pos, af, g⟩ v := by
  unfold fExtract at hv
  split at hv
  · rename_i cs hx
    obtain ⟨l, hl, ex⟩ := (r t (by simp) _ hx).tup_inv
    obtain ⟨u, hu, hur⟩ := hl.get hv
    exact ⟨u, hur, by simp [execOp, ex, Instr.extract, hu]⟩
  · cases hv

theorem fMake_ok {fn : Fn} {first captured : Array Operand} {ty : TypeId} {d : Option Tmp} {pos : String} {af : Array Edge} {g} {v : AV}
    (hv : fMake fn (evs ρ first.toList) (evs ρ captured.toList) = some v) (r : ER μ ρ e (first.toList ++ captured.toList)) : FOk C μ w e ⟨d, .makeFunc fn first captured, ty, pos, af, g⟩ v := by
  unfold fMake at hv
  split at hv
  · rename_i l c hl hc
    cases hv
    have h1 := evs_rel hl (e := e) (μ := μ) fun x hx => r x (by simp [List.mem_append]; exact .inl (by simpa using hx))
    have h2 := evs_rel hc (e := e) (μ := μ) fun x hx => r x (by simp [List.mem_append]; exact .inr (by simpa using hx))
    refine ⟨_, .fn fn h1 h2, ?_⟩
    simp [execOp, Instr.makeFunc]
    constructor <;> (apply Array.ext'; simp)
  · cases hv
end
end Go.Ax
set_option linter.unusedVariables false
set_option linter.unusedSimpArgs false
namespace Go.Ax
open Go Go.RowKit
section
variable {C : Cfg} {B : Bd} {w0 w : World} {μ : Mu} {h : H} {next : Nat} {ρ : Env} {e : Operand → Value}

def ORel (μ : Mu) : Option AV → Option Value → Prop
  | none, none => True
  | some a, some v => VRel μ a v
  | _, _ => False
theorem bound_rel {x : Option AV} {d n : Nat} (hb : bound x d = some n) {x' : Option Value} (hx : ORel μ x x') :
    (x = none ∧ x' = none ∧ n = d) ∨ ∃ k, x' = some (.int k (n : Int)) := by
  cases x with
  | none =>
    simp [bound] at hb
    cases x' with
    | none => exact .inl ⟨rfl, rfl, hb.symm⟩
    | some => exact hx.elim
  | some a =>
    cases x' with
    | none => exact hx.elim
    | some v =>
      obtain ⟨k, rfl⟩ := natOf_eq (show natOf a = some n from hb)
      exact .inr ⟨k, by have hx : VRel μ (.lit (.int k (n : Int))) v := hx; rw [hx.lit_inv]⟩
theorem run_bound {k : IntKind} {n y : Nat} (c : BoundsCode) (hn : n ≤ y) (w : World) : (Instr.sliceBound (.int k (n : Int)) y c).run C.P w = .ok n w := by
  simp [Instr.sliceBound, asIntOf, hn]

theorem optEv_rel {x : Option Operand} {y : Option AV} (hx : optEv ρ x = some y) (r : ER μ ρ e x.toList) : ORel μ y (x.map e) := by
  cases x with
  | none => simp [optEv] at hx; subst hx; trivial
  | some o =>
    simp only [optEv] at hx
    cases h1 : ρ o with
    | none => simp [h1] at hx
    | some a => simp [h1] at hx; subst hx; exact r o (by simp) a h1

/-- bounds of two -/
theorem run_bounds2 {isSlice : Bool} {len cap h l : Nat} {lo hi : Option Value} (hh : (hi = none ∧ h = len) ∨ ∃ k, hi = some (.int k (h : Int))) (hl : (lo = none ∧ l = 0) ∨ ∃ k, lo = some (.int k (l : Int)))
    (h1 : l ≤ h) (h2 : h ≤ cap) (w : World) : (Instr.sliceBounds isSlice len cap lo hi none).run C.P w = .ok (l, h, cap) w := by
  rcases hh with ⟨rfl, rfl⟩ | ⟨k, rfl⟩ <;> rcases hl with ⟨rfl, rfl⟩ | ⟨k', rfl⟩ <;> simp [Instr.sliceBounds, run_bound _ h1, run_bound _ h2]
theorem run_bounds3 {isSlice : Bool} {len cap h l m : Nat} {lo : Option Value} {k k2 : IntKind} (hl : (lo = none ∧ l = 0) ∨ ∃ k, lo = some (.int k (l : Int)))
    (h1 : l ≤ h) (h2 : h ≤ m) (h3 : m ≤ cap) (w : World) : (Instr.sliceBounds isSlice len cap lo (some (.int k (h : Int))) (some (.int k2 (m : Int)))).run C.P w = .ok (l, h, m) w := by
  rcases hl with ⟨rfl, rfl⟩ | ⟨k', rfl⟩ <;> simp [Instr.sliceBounds, run_bound _ h1, run_bound _ h2, run_bound _ h3]

theorem aslice_ok {t : TypeId} {x : AV} {lo hi mx : Option AV} {v : AV} (hv : aslice C h t x lo hi mx = some v) {x' : Value} (hx : VRel μ x x') {lo' hi' mx' : Option Value}
    (hlo : ORel μ lo lo')
    (hhi : ORel μ hi hi')
    (hmx : ORel μ mx mx')
    (I : Inv C B w0 μ h next w) : ∃ v', VRel μ v v' ∧ (Instr.sliceAt t x' lo' hi' mx').run C.P w = .ok v' w := by
  unfold aslice at hv
  split at hv
  · -- a slice
    rename_i elem b off len cap esz ex hu
    obtain ⟨L, cap', hL, c1, c2, c3, c4, rfl⟩ := hx.sl_inv
    unfold sliceSl at hv
    split at hv
    · rename_i s hs
      split at hv
      · rename_i hse
        have hse : s = esz := by simpa using hse
        subst hse
        split at hv
        · -- no third
          have hmx' : mx' = none := by cases mx' with | none => rfl | some => exact hmx.elim
          subst hmx'
          unfold slice2 at hv
          split at hv
          · rename_i hh ll hbh hbl
            split at hv
            · rename_i hle
              have r := run_bounds2 (C := C) (isSlice := true) (len := len) (cap := cap') (lo := lo') (hi := hi')
                (by rcases bound_rel hbh hhi with ⟨_, h2, h3⟩ | h3; exact .inl ⟨h2, h3⟩; exact .inr h3)
                (by rcases bound_rel hbl hlo with ⟨_, h2, h3⟩ | h3; exact .inl ⟨h2, h3⟩; exact .inr h3) hle.1 (Nat.le_trans hle.2 c1) w
              have run : (Instr.sliceAt t (.slice (some ⟨L.c, off, none⟩) len cap') lo' hi' none).run C.P w = .ok (.slice (some (if cap' = ll then ⟨L.c, off, none⟩ else ⟨L.c, off + ll * s, none⟩)) (hh - ll) (cap' - ll)) w := by
                simp [Instr.sliceAt, run_und hu, Instr.slice, r, run_szT hs, add_mk]
                split <;> simp
              split at hv
              · rename_i hcl
                split at hv
                · rename_i hex
                  cases hv
                  have : cap' = cap := c2 hex
                  subst this; subst hcl
                  refine ⟨_, ?_, run⟩
                  have e0 : hh - cap' = 0 := by omega
                  simp only [if_true, e0, Nat.sub_self]
                  exact .sl hL (Nat.le_refl _) (fun _ => rfl) (Nat.le_refl _) (by omega)
                · cases hv
                  refine ⟨_, ?_, run⟩
                  have e0 : hh - ll = 0 := by omega
                  rw [e0]; exact .sl0 _ _
              · rename_i hcl
                cases hv
                refine ⟨_, ?_, run⟩
                have : ¬ cap' = ll := by omega
                rw [if_neg this]
                refine .sl hL (by omega) (fun hx => by rw [c2 hx]) (by omega) ?_
                have : off + ll * s + (cap' - ll) * s = off + cap' * s := by
                  rw [Nat.add_assoc, ← Nat.add_mul]; congr 2; omega
                omega
            · cases hv
          · cases hv
        · -- a third
          rename_i m
          cases hi with
          | none => simp [slice3] at hv
          | some hh2 =>
            simp only [slice3] at hv
            split at hv
            · rename_i mn hn ln hbm hbh hbl
              cases hi' with
              | none => exact hhi.elim
              | some hiv =>
                cases mx' with
                | none => exact hmx.elim
                | some mxv =>
                  obtain ⟨k1, q1⟩ := natOf_eq hbm
                  obtain ⟨k2, q2⟩ := natOf_eq hbh
                  have e1 : mxv = .int k1 (mn : Int) := VRel.lit_inv (μ := μ) (q1 ▸ hmx)
                  have e2 : hiv = .int k2 (hn : Int) := VRel.lit_inv (μ := μ) (q2 ▸ hhi)
                  subst e1; subst e2
                  unfold sliceFull at hv
                  split at hv
                  · rename_i hle
                    cases hv
                    have r := run_bounds3 (C := C) (isSlice := true) (len := len) (cap := cap') (lo := lo') (k := k2) (k2 := k1)
                      (by rcases bound_rel hbl hlo with ⟨_, h2, h3⟩ | h3; exact .inl ⟨h2, h3⟩; exact .inr h3) hle.1 hle.2.1 (Nat.le_trans hle.2.2 c1) w
                    refine ⟨.slice (some (if mn = ln then ⟨L.c, off, none⟩ else ⟨L.c, off + ln * s, none⟩)) (hn - ln) (mn - ln), ?_, ?_⟩
                    · have hb : off + mn * s ≤ L.tot := by
                        have : mn * s ≤ cap' * s := Nat.mul_le_mul_right _ (Nat.le_trans hle.2.2 c1)
                        omega
                      split
                      · rename_i hml
                        subst hml
                        refine .sl hL (Nat.le_refl _) (fun _ => rfl) (by omega) ?_
                        simp; omega
                      · refine .sl hL (Nat.le_refl _) (fun _ => rfl) (by omega) ?_
                        have : off + ln * s + (mn - ln) * s = off + mn * s := by
                          rw [Nat.add_assoc, ← Nat.add_mul]; congr 2; omega
                        omega
                    · simp [Instr.sliceAt, run_und hu, Instr.slice, r, run_szT hs, add_mk]
                      split <;> simp
                  · cases hv
            · cases hv
      · cases hv
    · cases hv
  · -- an empty one
    rename_i elem hu
    obtain ⟨a, c, rfl⟩ := hx.sl0_inv
    split at hv
    · rename_i s hs hbh hbl
      cases hv
      have hmx' : mx' = none := by cases mx' with | none => rfl | some => exact hmx.elim
      subst hmx'
      have r := run_bounds2 (C := C) (isSlice := true) (len := 0) (cap := c) (lo := lo') (hi := hi')
        (by rcases bound_rel hbh hhi with ⟨_, h2, h3⟩ | h3; exact .inl ⟨h2, h3⟩; exact .inr h3)
        (by rcases bound_rel hbl hlo with ⟨_, h2, h3⟩ | h3; exact .inl ⟨h2, h3⟩; exact .inr h3) (Nat.le_refl 0) (Nat.zero_le _) w
      refine ⟨.slice (some a) 0 c, .sl0 _ _, ?_⟩
      simp [Instr.sliceAt, run_und hu, Instr.slice, r, run_szT hs, Addr.add]
    · cases hv
  · -- an array
    rename_i n elem b off hu
    obtain ⟨L, hL, rfl⟩ := hx.ptr_inv
    unfold sliceArr at hv
    split at hv
    · rename_i s c cn el ro hs hg
      have hmx' : mx' = none := by cases mx' with | none => rfl | some => exact hmx.elim
      subst hmx'
      split at hv
      · rename_i hcn
        split at hv
        · rename_i hh ll hbh hbl
          unfold sliceFull at hv
          split at hv
          · rename_i hle
            cases hv
            have hob := I.obj b L _ hL hg
            have r := run_bounds2 (C := C) (isSlice := false) (len := n) (cap := n) (lo := lo') (hi := hi')
              (by rcases bound_rel hbh hhi with ⟨_, h2, h3⟩ | h3; exact .inl ⟨h2, h3⟩; exact .inr h3)
              (by rcases bound_rel hbl hlo with ⟨_, h2, h3⟩ | h3; exact .inl ⟨h2, h3⟩; exact .inr h3) hle.1 hle.2.1 w
            refine ⟨.slice (some (if n = ll then ⟨L.c, off, none⟩ else ⟨L.c, off + ll * s, none⟩)) (hh - ll) (n - ll), ?_, ?_⟩
            · have hb : off + n * s ≤ L.tot := Nat.le_trans hcn hob.2.1
              split
              · rename_i hml
                subst hml
                refine .sl hL (Nat.le_refl _) (fun _ => rfl) (by omega) ?_
                simp; omega
              · refine .sl hL (Nat.le_refl _) (fun _ => rfl) (by omega) ?_
                have : off + ll * s + (n - ll) * s = off + n * s := by
                  rw [Nat.add_assoc, ← Nat.add_mul]; congr 2; omega
                omega
            · simp [Instr.sliceAt, run_und hu, Instr.sureAddr, r, run_szT hs, add_mk]
          · cases hv
        · cases hv
      · cases hv
    · cases hv
  · cases hv
end
end Go.Ax
