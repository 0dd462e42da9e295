import Derived.Calls
import Derived.ChangeKeysEq
import Derived.Laws.Append
import Derived.Laws.AppendOwn
import Derived.Laws.Build
import Derived.Laws.BytesArg
import Derived.Laws.Cells
import Derived.Laws.CopyRow
import Derived.Laws.Entries
import Derived.Laws.Sem
import Derived.Laws.Slices
import Derived.Laws.Strings
import Derived.Laws.StructEq
import GoSem.Step
set_option linter.unusedSimpArgs false
set_option linter.unusedVariables false
set_option linter.unusedSectionVars false
/- A pure, deterministic reading of the loaded Go program: values by value, local variables in boxes. (Definitions.) -/
namespace Go.Mia

/-- The right to append in place: unknown (none), capacity equals length (full), held by a box's cell (own), by a frame (tok), lent by a box's cell. -/
inductive Tk where
  | none | full | own
  | tok (t : Nat)
  | lent (d i off stamp : Nat)
  deriving DecidableEq, Inhabited

inductive D where
  | undef
  | bool (b : Bool)
  | int (k : IntKind) (n : Int)
  | str (s : List UInt8)
  | nilp
  | ptr (d i off : Nat)
  | cptr (cells : List D)
  | slice (tk : Tk) (s : Nat) (xs : List D)
  | vsl (d i off len s cap : Nat)
  | fn (f : FuncId) (first captured : List D)
  | yld (d i : Nat)
  | nilf
  | iface (t : TypeId) (v : D)
  | nili
  | agg (cs : List D)
  | tup (ds : List D)
  deriving Inhabited

def D.cells : D → List D
  | .agg cs => cs
  | d => [d]

inductive Opnd where
  | tmp (t : Nat)
  | const (d : D)
  deriving Inhabited

inductive Leaf where
  | bool | int | str
  deriving DecidableEq, Inhabited

/-- what is compared -/
inductive EqK where
  | int | str | bool | ptr | func | iface
  | agg (ls : List Leaf)
  deriving Inhabited

inductive LenK where
  | str | slice
  deriving DecidableEq, Inhabited

inductive IOp where
  | mv (x : Opnd)
  | pick (c a b : Opnd)
  | alloc (zs : List D)
  | box (x : Opnd)
  | build (zs : List D) (parts : List (Nat × Nat × Opnd))
  | buildSl (s : Nat) (elems : List Opnd)
  | load (agg : Bool) (s : Nat) (x : Opnd)
  | store (s : Nat) (a x : Opnd)
  | nilck (x : Opnd)
  | bin (op : BinOp) (x y : Opnd)
  | eq (neg : Bool) (k : EqK) (x y : Opnd)
  | un (op : UnOp) (x : Opnd)
  | toInt (k : IntKind) (x : Opnd)
  | same (x : Opnd)
  | strBytes (x : Opnd)
  | bytesStr (x : Opnd)
  | mkI (t : TypeId) (x : Opnd)
  | mkF (f : FuncId) (first captured : List Opnd)
  | mkSl (s : Nat) (bytes : Nat) (zs : List D) (n : Opnd)
  | mkCap (s : Nat) (bytes : Nat) (n : Opnd)
  | slice (s : Nat) (x : Opnd) (lo hi mx : Option Opnd)
  | fld (off : Nat) (x : Opnd)
  | fldv (agg : Bool) (off s : Nat) (x : Opnd)
  | idx (arr : Option Nat) (s : Nat) (x i : Opnd)
  | idxs (x i : Opnd)
  | idxa (agg : Bool) (n s : Nat) (x i : Opnd)
  | ext (x : Opnd) (i : Nat)
  | tas (t : TypeId) (z : D) (ok : Bool) (x : Opnd)
  | len (k : LenK) (x : Opnd)
  | minmax (isMax : Bool) (xs : List Opnd)
  | append (vec str : Bool) (s bytes : Nat) (a b : Opnd)
  | clone (vec : Bool) (f : FuncId) (s bytes : Nat) (x : Opnd)
  | grow (f : FuncId) (s bytes : Nat) (zs : List D) (x n : Opnd)
  | clear (zs : List D) (x : Opnd)
  | call (own : Bool) (f : Opnd) (args : List Opnd)
  | recov
  | defer (f : Opnd) (args : List Opnd)
  | panic (x : Opnd)
  deriving Inhabited

def Opnd.slots : Opnd → List Nat
  | .tmp t => [t]
  | .const _ => []
def optSlots : Option Opnd → List Nat
  | some x => x.slots
  | none => []
/-- the slots that an operation looks at -/
def IOp.slots : IOp → List Nat
  | .mv x | .box x | .load _ _ x | .nilck x | .un _ x | .toInt _ x | .same x | .strBytes x | .bytesStr x | .mkI _ x | .mkSl _ _ _ x | .mkCap _ _ x
  | .fld _ x | .fldv _ _ _ x | .ext x _ | .tas _ _ _ x | .len _ x | .clone _ _ _ _ x | .clear _ x | .panic x => x.slots
  | .pick a b c => a.slots ++ b.slots ++ c.slots
  | .store _ a b | .bin _ a b | .eq _ _ a b | .idx _ _ a b | .idxs a b | .idxa _ _ _ a b | .append _ _ _ _ a b | .grow _ _ _ _ a b => a.slots ++ b.slots
  | .build _ ps => ps.flatMap fun p => p.2.2.slots
  | .buildSl _ es | .minmax _ es => es.flatMap Opnd.slots
  | .mkF _ a b => a.flatMap Opnd.slots ++ b.flatMap Opnd.slots
  | .slice _ x a b c => x.slots ++ optSlots a ++ optSlots b ++ optSlots c
  | .call _ f as | .defer f as => f.slots ++ as.flatMap Opnd.slots
  | .alloc _ | .recov => []

structure IOper where
  dst : Option Nat
  op : IOp
  /-- the slot that is looked at, and what it must hold -/
  guard : Option (Nat × Bool) := none
  /-- in a region that draws its order: every other operation that is not quiet comes before it, or behind it -/
  iso : Bool := true
  /-- every other operation comes before it, or behind it -/
  pok : Bool := true
  /-- every other operation that takes a right comes before it, or behind it -/
  tiso : Bool := true
  /-- a store: what comes neither before it nor behind it is quiet or a load -/
  un : Bool := false
  /-- what comes before it, as bits -/
  past : Nat := 0
  /-- of a load the stores, of a store the loads, that come neither before it nor behind it -/
  near : List Nat := []
  deriving Inhabited

/-- does it touch no memory and call nothing -/
def quietOp : IOp → Bool
  | .mv _ | .pick .. | .build .. | .nilck _ | .bin .. | .eq .. | .un .. | .toInt .. | .same _ | .mkI .. | .mkF .. | .slice .. | .fld .. | .fldv .. | .idx .. | .idxs .. | .idxa .. | .ext .. | .tas .. | .len .. | .minmax .. => true
  | _ => false
/-- may it take a right -/
def takesOp : IOp → Bool
  | .box _ | .append .. | .clone .. | .store .. => true
  | _ => false

inductive IC where
  | skip
  | region (ops : List IOper)
  | seq (a b : IC)
  | cond (c : Opnd) (a b : IC)
  | block (id : Nat) (b : IC)
  | loop (b : IC)
  | scope (b : IC)
  | rangeFunc (f : Opnd) (params : List Nat) (assign body : IC)
  | exit (id : Nat)
  | ret
  deriving Inhabited

inductive IRes where
  | tmp (t : Nat)
  | cell (a : Nat) (agg : Bool) (s : Nat)
  deriving Inhabited

structure IFunc where
  nt : Nat
  own : Bool
  results : List IRes
  body : IC
  deriving Inhabited

inductive Jump where
  | exit (id : Nat)
  | ret
  deriving Inhabited, DecidableEq

inductive LState where
  | ready | busy | done | exhausted
  deriving DecidableEq, Inhabited

structure LoopRec where
  state : LState
  pending : Option Jump
  σ : Nat → D
  params : List Nat
  assign : IC
  body : IC

inductive Obj where
  | none
  | cells (cs : List D)
  | loop (r : LoopRec)

abbrev Store := Nat → Nat → Obj

def upd {α : Type} (σ : Nat → α) (i : Nat) (d : α) : Nat → α := fun j => if j = i then d else σ j
def upd2 (S : Store) (d i : Nat) (o : Obj) : Store := fun d' i' => if d' = d ∧ i' = i then o else S d' i'
/-- what lies below a level -/
def trim (δ : Nat) (S : Store) : Store := fun d i => if d < δ then S d i else .none

structure St where
  σ : Nat → D
  S : Store
  m : Nat
  live : Nat → Bool
  nt : Nat
  now : Nat
  /-- the lowest level that was written -/
  low : Nat
  pend : Option D
  recd : Bool

inductive Out where
  | ret (d : D)
  | pan (v : D)

structure Ret where
  out : Out
  recd : Bool
  low : Nat
  S' : Option Store

/-- a deferred call, or the mark of a loop over a function -/
inductive IDefer where
  | mark
  | call (f : D) (args : List D)

structure Cx where
  δ : Nat
  own : Bool
  results : List IRes
  /-- the loop whose round this is -/
  round : Option (Nat × Nat) := none

/-- kd: none a plain call, some a deferred one, with what panics -/
abbrev CallF := (kd : Option (Option D)) → (f : D) → (args : List D) → Store → (δ : Nat) → Option Ret

/-! ### Shallow looks at a value -/
/-- a value of a Go type -/
def D.isVal : D → Bool
  | .undef | .tup _ => false
  | _ => true

mutual
/-- no pointer to a box inside (what slices and constants hold is so anyway) -/
def D.pure : D → Bool
  | .ptr .. | .vsl .. | .yld .. | .tup _ | .undef => false
  | .fn _ a b => D.pures a && D.pures b
  | .iface _ v => v.pure
  | .agg cs => D.pures cs
  | _ => true
def D.pures : List D → Bool
  | [] => true
  | d :: ds => d.pure && D.pures ds
end

mutual
/-- pointers lead to levels up to n alone -/
def D.upto (n : Nat) : D → Bool
  | .ptr d .. | .vsl d .. | .yld d _ => decide (d ≤ n)
  | .fn _ a b => D.uptos n a && D.uptos n b
  | .iface _ v => v.upto n
  | .agg cs => D.uptos n cs
  | .tup _ | .undef => false
  | _ => true
def D.uptos (n : Nat) : List D → Bool
  | [] => true
  | d :: ds => d.upto n && D.uptos n ds
end

/-- without a right to append -/
def D.degr1 : D → D
  | .slice _ s xs => .slice .none s xs
  | d => d
def D.degr : D → D
  | .agg cs => .agg (cs.map D.degr1)
  | d => d.degr1

/-- as a round sees a slot -/
def D.snap (n : Nat) (d : D) : D := if d.degr.upto n then d.degr else .undef

/-- a cell that is read alone: its right is lent -/
def lend1 (d i now off : Nat) : D → D
  | .slice .own s xs => .slice (.lent d i off now) s xs
  | d => d

/-- in a struct or an array: no right but that of a slice without room -/
def fullOr : D → D
  | .slice .full s xs => .slice .full s xs
  | .slice _ s xs => .slice .none s xs
  | d => d

def ofCells (agg : Bool) (s : Nat) (cs : List D) : Option D :=
  if cs.length = s then
    if agg then some (.agg (cs.map D.degr1)) else cs.head?
  else none

/-- what is stored: a live right goes over to the box -/
def settle (live : Nat → Bool) : D → List D × (Nat → Bool)
  | .slice (.tok t) s xs => if live t then ([.slice .own s xs], upd live t false) else ([.slice .none s xs], live)
  | .agg cs => (cs.map fullOr, live)
  | d => ([fullOr d], live)

def setCells (cs : List D) (off : Nat) (vs : List D) : List D := cs.take off ++ vs ++ cs.drop (off + vs.length)

def chunks (s : Nat) : Nat → List D → List D
  | 0, _ => []
  | n + 1, cs => (if s = 1 then (cs.head?).getD .undef else .agg (cs.take s)) :: chunks s n (cs.drop s)

/-! ### Operations -/
def ev (σ : Nat → D) : Opnd → D
  | .tmp t => σ t
  | .const d => d
def evs (σ : Nat → D) : List Opnd → List D
  | [] => []
  | x :: xs => ev σ x :: evs σ xs

def bytesLess := Go.Op.bytesLess

def intBits (op : BinOp) (k : IntKind) (x y : Int) : Int :=
  let a := BitVec.ofInt k.bits x
  let b := BitVec.ofInt k.bits y
  match op with
  | .and => k.wrap (a &&& b).toNat
  | .or => k.wrap (a ||| b).toNat
  | .xor => k.wrap (a ^^^ b).toNat
  | _ => k.wrap (a &&& ~~~b).toNat

def binInt (op : BinOp) (k : IntKind) (a b : Int) : Option D :=
  match op with
  | .add => some (.int k (k.wrap (a + b)))
  | .sub => some (.int k (k.wrap (a - b)))
  | .mul => some (.int k (k.wrap (a * b)))
  | .quo => if b = 0 then none else some (.int k (k.wrap (a.tdiv b)))
  | .rem => if b = 0 then none else some (.int k (a.tmod b))
  | .and => some (.int k (intBits .and k a b))
  | .or => some (.int k (intBits .or k a b))
  | .xor => some (.int k (intBits .xor k a b))
  | .andNot => some (.int k (intBits .andNot k a b))
  | .eql => some (.bool (decide (a = b)))
  | .neq => some (.bool (!decide (a = b)))
  | .lss => some (.bool (decide (a < b)))
  | .leq => some (.bool (decide (a ≤ b)))
  | .gtr => some (.bool (decide (b < a)))
  | .geq => some (.bool (decide (b ≤ a)))
  | _ => none

def shInt (op : BinOp) (k : IntKind) (a b : Int) : Option D :=
  if b < 0 then none else
  match op with
  | .shl => some (.int k (k.wrap (a * 2 ^ (min b.toNat k.bits))))
  | .shr => some (.int k (a.fdiv (2 ^ (min b.toNat k.bits))))
  | _ => none

def binStr (op : BinOp) (a b : List UInt8) : Option D :=
  match op with
  | .add => if a.length + b.length ≤ 140737488355328 then some (.str (a ++ b)) else none
  | .eql => some (.bool (decide (a = b)))
  | .neq => some (.bool (!decide (a = b)))
  | .lss => some (.bool (bytesLess a b))
  | .leq => some (.bool (bytesLess a b || decide (a = b)))
  | .gtr => some (.bool (!(bytesLess a b || decide (a = b))))
  | .geq => some (.bool (!bytesLess a b))
  | _ => none

def binD (op : BinOp) : D → D → Option D
  | .int k a, .int k' b =>
    match op with
    | .shl | .shr => shInt op k a b
    | _ => if k = k' then binInt op k a b else none
  | .str a, .str b => binStr op a b
  | _, _ => none

def eqLeaf : Leaf → D → D → Option Bool
  | .bool, .bool a, .bool b => some (a == b)
  | .int, .int k a, .int k' b => if k = k' then some (decide (a = b)) else none
  | .str, .str a, .str b => some (decide (a = b))
  | _, _, _ => none
def eqs : List Leaf → List D → List D → Option Bool
  | [], [], [] => some true
  | l :: ls, a :: as, b :: bs => match eqLeaf l a b with
    | none => none
    | some x => match eqs ls as bs with
      | none => none
      | some y => some (x && y)
  | _, _, _ => none
def eqPtr : D → D → Option Bool
  | .nilp, .nilp => some true
  | .nilp, .ptr .. | .nilp, .cptr _ | .ptr .., .nilp | .cptr _, .nilp => some false
  | _, _ => none
def eqFn : D → D → Option Bool
  | .nilf, .nilf => some true
  | .nilf, .fn .. | .fn .., .nilf => some false
  | _, _ => none
def eqIf : D → D → Option Bool
  | .nili, .nili => some true
  | .nili, .iface .. | .iface .., .nili => some false
  | _, _ => none
def eqInt : D → D → Option Bool
  | .int k a, .int k' b => if k = k' then some (decide (a = b)) else none
  | _, _ => none
def eqStr : D → D → Option Bool
  | .str a, .str b => some (decide (a = b))
  | _, _ => none
def eqBool : D → D → Option Bool
  | .bool a, .bool b => some (a == b)
  | _, _ => none
def eqAgg (ls : List Leaf) : D → D → Option Bool
  | .agg as, .agg bs => eqs ls as bs
  | _, _ => none
def eqD : EqK → D → D → Option Bool
  | .int => eqInt
  | .str => eqStr
  | .bool => eqBool
  | .ptr => eqPtr
  | .func => eqFn
  | .iface => eqIf
  | .agg ls => eqAgg ls

def unD (op : UnOp) : D → Option D
  | .int k n => match op with
    | .neg => some (.int k (k.wrap (0 - n)))
    | .xor => some (.int k (intBits .xor k (if k.signed then -1 else k.max) n))
    | _ => none
  | .bool b => match op with
    | .not => some (.bool !b)
    | _ => none
  | _ => none

def asNat (d : D) : Option Nat :=
  match d with
  | .int _ n => if 0 ≤ n then some n.toNat else none
  | _ => none

def optNat (σ : Nat → D) (dflt : Nat) : Option Opnd → Option Nat
  | none => some dflt
  | some x => asNat (ev σ x)

def optNat' (σ : Nat → D) : Option Opnd → Option (Option Nat)
  | none => some none
  | some x => (asNat (ev σ x)).map some

/-- the right that a part up to the end keeps -/
def cutTk (tk : Tk) (l h n : Nat) (mx : Option Nat) : Tk :=
  if mx = some h then .full else
  if h = n then (if l < h then tk else if tk = .full then .full else .none) else .none

def sliceD (s' : Nat) (d : D) (l : Nat) (h mx : Option Nat) : Option D :=
  match d with
  | .str s => if s' = 0 ∧ mx = none ∧ l ≤ h.getD s.length ∧ h.getD s.length ≤ s.length then some (.str ((s.take (h.getD s.length)).drop l)) else none
  | .slice tk s xs =>
    if s' ≠ 0 ∧ (s = s' ∨ xs = []) ∧ l ≤ h.getD xs.length ∧ h.getD xs.length ≤ xs.length ∧ h.getD xs.length ≤ mx.getD xs.length ∧ mx.getD xs.length ≤ xs.length then
      some (.slice (cutTk tk l (h.getD xs.length) xs.length mx) s ((xs.take (h.getD xs.length)).drop l)) else none
  | .vsl d i off len s c =>
    if s' ≠ 0 ∧ s = s' ∧ l ≤ h.getD len ∧ h.getD len ≤ mx.getD c ∧ mx.getD c ≤ c then some (.vsl d i (off + l * s) (h.getD len - l) s (mx.getD c - l)) else none
  | _ => none

def lenD (k : LenK) (d : D) : Option Nat :=
  match k, d with
  | .slice, .slice _ _ xs => some xs.length
  | .slice, .vsl _ _ _ len _ _ => some len
  | .str, .str s => some s.length
  | _, _ => none

def fldD (off : Nat) : D → Option D
  | .ptr d i o => some (.ptr d i (o + off))
  | .cptr cs => some (.cptr (cs.drop off))
  | _ => none

def fldvD (agg : Bool) (off s : Nat) : D → Option D
  | .agg cs => (ofCells agg s ((cs.drop off).take s)).map D.degr
  | _ => none

def idxD (arr : Option Nat) (s : Nat) (x : D) (i : Nat) : Option D :=
  match arr, x with
  | some n, .ptr d b o => if i < n then some (.ptr d b (o + i * s)) else none
  | some n, .cptr cs => if i < n then some (.cptr (cs.drop (i * s))) else none
  | none, .slice _ s' xs => if s' = s then match xs[i]? with
      | some x => some (.cptr x.cells)
      | none => none
    else none
  | none, .vsl d b off len s' _ => if s' = s ∧ i < len then some (.ptr d b (off + i * s)) else none
  | _, _ => none

def idxsD (x : D) (i : Nat) : Option D :=
  match x with
  | .str s => match s[i]? with
    | some b => some (.int .u8 (b.toNat : Int))
    | none => none
  | _ => none

def extD (i : Nat) : D → Option D
  | .tup ds => (ds[i]?).map D.degr
  | _ => none

def nilckD : D → Option D
  | .ptr d i o => some (.ptr d i o)
  | .cptr cs => some (.cptr cs)
  | .fn f a b => some (.fn f a b)
  | _ => none

def tasD (t : TypeId) (z : D) (ok : Bool) : D → Option D
  | .nili => if ok then some (.tup [z, .bool false]) else none
  | .iface u v =>
    if u = t then some (if ok then .tup [v.degr, .bool true] else v.degr)
    else if ok then some (.tup [z, .bool false]) else none
  | _ => none

def pickD (c a b : D) : Option D :=
  match c with
  | .bool true => some a
  | .bool false => some b
  | _ => none

def fills : List D → List (Nat × Nat × D) → Option (List D)
  | zs, [] => some zs
  | zs, (off, s, d) :: ps => if d.cells.length = s ∧ off + s ≤ zs.length ∧ d.isVal = true then fills (setCells zs off d.degr.cells) ps else none

def foldMM (isMax : Bool) : D → List D → Option D
  | d, [] => some d
  | .int k a, .int k' b :: ds => if k = k' then foldMM isMax (.int k (if isMax then (if b > a then b else a) else (if b < a then b else a))) ds else none
  | _, _ => none

def D.isAgg : D → Bool
  | .agg _ => true
  | _ => false
/-- its cells are no structs -/
def D.flat : D → Bool
  | .agg cs => cs.all fun c => !c.isAgg
  | _ => true

/-- all of one size, no pointers to boxes inside -/
def elemsOk (s : Nat) : List D → Bool
  | [] => true
  | d :: ds => decide (d.cells.length = s) && d.pure && d.flat && elemsOk s ds

/-- what is appended, element by element, with its stride -/
def srcOf (S : Store) (str : Bool) (d : D) : Option (Nat × List D) :=
  match str, d with
  | false, .slice _ s ys => some (s, ys)
  | true, .str bs => some (1, bs.map fun b => .int .u8 (b.toNat : Int))
  | false, .vsl d i off len s _ => match S d i with
    | .cells cs => if off + len * s ≤ cs.length ∧ D.pures cs = true then some (s, chunks s len ((cs.drop off).map D.degr1)) else none
    | _ => none
  | _, _ => none

def LIM : Nat := 140737489403904

/-- may it be appended to, and what becomes of the state's rights -/
def takeRight (st : St) (tk : Tk) : Option St :=
  match tk with
  | .full => some st
  | .tok t => if st.live t then some { st with live := upd st.live t false } else none
  | .lent d i off stamp => if stamp = st.now then
      match st.S d i with
      | .cells cs => match cs[off]? with
        | some (.slice .own s ys) => some { st with S := upd2 st.S d i (.cells (cs.set off (.slice .none s ys))), now := st.now + 1, low := min st.low d }
        | _ => none
      | _ => none
    else none
  | _ => none

/-- operation j of a region makes box m + j and right nt + j, if any -/
def newTok (j : Nat) (st : St) : St := { st with live := upd st.live (st.nt + j) true }

def appendOp (δ j : Nat) (vec str : Bool) (s bytes : Nat) (a b : D) (st : St) : Option (D × St) :=
  match a with
  | .slice tk s0 xs =>
    match srcOf st.S str b with
    | some (s1, ys) =>
      if (s0 = s ∨ (xs = [] ∧ tk = .full)) ∧ (s1 = s ∨ ys = []) ∧ (xs.length + ys.length) * bytes ≤ LIM then
        if vec then
          if tk = .full ∧ xs = [] then
            some (.vsl δ (st.m + j) 0 (xs.length + ys.length) s (xs.length + ys.length), { st with S := upd2 st.S δ (st.m + j) (.cells (((xs ++ ys).flatMap D.cells).map fullOr)) })
          else none
        else if tk = .full ∧ ys = [] then some (.slice .full s xs, st)
        else match takeRight st tk with
          | some st' => some (.slice (.tok (st.nt + j)) s (xs ++ ys), newTok j st')
          | none => none
      else none
    | none => none
  | .vsl d i off len s0 c =>
    match srcOf st.S str b, st.S d i with
    | some (s1, ys), .cells cs =>
      if s0 = s ∧ (s1 = s ∨ ys = []) ∧ len + ys.length ≤ c ∧ off + (len + ys.length) * s ≤ cs.length then
        some (.vsl d i off (len + ys.length) s c, { st with S := upd2 st.S d i (.cells (setCells cs (off + len * s) ((ys.flatMap D.cells).map fullOr))), now := st.now + 1, low := min st.low d })
      else none
    | _, _ => none
  | _ => none

def growOp (δ j : Nat) (s bytes : Nat) (zs : List D) (a n : D) (st : St) : Option (D × St) :=
  match a, n with
  | .slice .full _ [], .int .i64 z => if 0 ≤ z ∧ z.toNat * bytes ≤ LIM ∧ z.toNat ≤ LIM then
      some (.vsl δ (st.m + j) 0 0 s z.toNat, { st with S := upd2 st.S δ (st.m + j) (.cells (List.replicate z.toNat zs).flatten) }) else none
  | _, _ => none

def clearOp (zs : List D) (a : D) (st : St) : Option (D × St) :=
  match a with
  | .vsl d i off len s _ => match st.S d i with
    | .cells cs => if zs.length = s ∧ off + len * s ≤ cs.length then
        some (.undef, { st with S := upd2 st.S d i (.cells (setCells cs off (List.replicate len zs).flatten)), now := st.now + 1, low := min st.low d })
      else none
    | _ => none
  | _ => none

def loadOp (agg : Bool) (s : Nat) (x : D) (st : St) : Option D :=
  match x with
  | .ptr d i off => match st.S d i with
    | .cells cs => (ofCells agg s ((cs.drop off).take s)).map (lend1 d i st.now off)
    | _ => none
  | .cptr cs => (ofCells agg s (cs.take s)).map D.degr
  | _ => none

def storeOp (s : Nat) (a x : D) (st : St) : Option St :=
  match a with
  | .ptr d i off => match st.S d i with
    | .cells cs =>
      if x.cells.length = s ∧ off + s ≤ cs.length ∧ x.upto d = true then
        let r := settle st.live x
        some { st with S := upd2 st.S d i (.cells (setCells cs off r.1)), live := r.2, now := st.now + 1, low := min st.low d }
      else none
    | _ => none
  | _ => none

def allocSt (δ j : Nat) (cs : List D) (st : St) : D × St := (.ptr δ (st.m + j) 0, { st with S := upd2 st.S δ (st.m + j) (.cells cs) })

def bytesOf (cs : List D) : Option (List UInt8) :=
  match cs with
  | [] => some []
  | .int .u8 n :: cs => match bytesOf cs with
    | some l => some (UInt8.ofNat n.toNat :: l)
    | none => none
  | _ => none

/-- An operation that calls nothing. -/
def evalOp (δ j : Nat) (op : IOp) (st : St) : Option (D × St) :=
  match op with
  | .mv x => some (ev st.σ x, st)
  | .pick c a b => (pickD (ev st.σ c) (ev st.σ a) (ev st.σ b)).map (·, st)
  | .alloc zs => some (allocSt δ j zs st)
  | .box x =>
    let r := settle st.live (ev st.σ x)
    if (ev st.σ x).upto δ then some (allocSt δ j r.1 { st with live := r.2 }) else none
  | .build zs ps => (fills zs (ps.map fun p => (p.1, p.2.1, ev st.σ p.2.2))).map fun cs => (.agg cs, st)
  | .buildSl s es =>
    let ds := (evs st.σ es).map D.degr
    if elemsOk s ds then some (.slice .full s ds, st) else none
  | .load agg s x => (loadOp agg s (ev st.σ x) st).map (·, st)
  | .store s a x => (storeOp s (ev st.σ a) (ev st.σ x) st).map (.undef, ·)
  | .nilck x => (nilckD (ev st.σ x)).map (·, st)
  | .bin op x y => (binD op (ev st.σ x) (ev st.σ y)).map (·, st)
  | .eq neg k x y => (eqD k (ev st.σ x) (ev st.σ y)).map fun b => (.bool (neg != b), st)
  | .un op x => (unD op (ev st.σ x)).map (·, st)
  | .toInt k x => match ev st.σ x with
    | .int _ n => some (.int k (k.wrap n), st)
    | _ => none
  | .same x => match ev st.σ x with
    | .str s => some (.str s, st)
    | _ => none
  | .strBytes x => match ev st.σ x with
    | .str s => if s.length ≤ LIM then some (.vsl δ (st.m + j) 0 s.length 1 s.length, { st with S := upd2 st.S δ (st.m + j) (.cells (s.map fun b => .int .u8 (b.toNat : Int))) }) else none
    | _ => none
  | .bytesStr x => match srcOf st.S false (ev st.σ x) with
    | some (_, ys) => (bytesOf ys).map fun l => (.str l, st)
    | none => none
  | .mkI t x => if (ev st.σ x).degr.pure then some (.iface t (ev st.σ x).degr, st) else none
  | .mkF f a b => some (.fn f ((evs st.σ a).map D.degr) ((evs st.σ b).map D.degr), st)
  | .mkSl s bytes zs n => match asNat (ev st.σ n) with
    | some n => if n * bytes ≤ LIM ∧ n ≤ LIM then some (.vsl δ (st.m + j) 0 n s n, { st with S := upd2 st.S δ (st.m + j) (.cells (List.replicate n zs).flatten) }) else none
    | none => none
  | .mkCap s bytes n => match asNat (ev st.σ n) with
    | some n => if n * bytes ≤ LIM ∧ n ≤ LIM then some (.slice (.tok (st.nt + j)) s [], newTok j st) else none
    | none => none
  | .slice s x lo hi mx =>
    match optNat st.σ 0 lo, optNat' st.σ hi, optNat' st.σ mx with
    | some l, some h, some m => (sliceD s (ev st.σ x) l h m).map (·, st)
    | _, _, _ => none
  | .fld off x => (fldD off (ev st.σ x)).map (·, st)
  | .fldv agg off s x => (fldvD agg off s (ev st.σ x)).map (·, st)
  | .idx arr s x i => match asNat (ev st.σ i) with
    | some i => (idxD arr s (ev st.σ x) i).map (·, st)
    | none => none
  | .idxs x i => match asNat (ev st.σ i) with
    | some i => (idxsD (ev st.σ x) i).map (·, st)
    | none => none
  | .idxa agg n s x i => match asNat (ev st.σ i) with
    | some i => if i < n then (fldvD agg (i * s) s (ev st.σ x)).map (·, st) else none
    | none => none
  | .ext x i => (extD i (ev st.σ x)).map (·, st)
  | .tas t z ok x => (tasD t z ok (ev st.σ x)).map (·, st)
  | .len k x => (lenD k (ev st.σ x)).map fun (n : Nat) => (D.int .i64 (n : Int), st)
  | .minmax isMax xs => match evs st.σ xs with
    | .int k n :: ds => (foldMM isMax (.int k n) ds).map (·, st)
    | _ => none
  | .append vec str s bytes a b => appendOp δ j vec str s bytes (ev st.σ a) (ev st.σ b) st
  | .clone vec _ s bytes x => appendOp δ j vec false s bytes (.slice .full s []) (ev st.σ x) st
  | .grow _ s bytes zs x n => growOp δ j s bytes zs (ev st.σ x) (ev st.σ n) st
  | .clear zs x => clearOp zs (ev st.σ x) st
  | .recov | .call .. | .defer .. | .panic _ => none

/-- The right that a result brings is the frame's now. -/
def adopt (j : Nat) (st : St) : D → D × St
  | .slice .own s xs => (.slice (.tok (st.nt + j)) s xs, newTok j st)
  | d => (d, st)

def putD (st : St) (dst : Option Nat) (d : D) : St :=
  match dst with
  | some t => { st with σ := upd st.σ t d }
  | none => st

/-- is it wanted, if that is known -/
def wanted (st : St) (o : IOper) : Option Bool :=
  match o.guard with
  | none => some true
  | some (t, b) => match st.σ t with
    | .bool c => some (c == b)
    | .tup [] => some false
    | _ => none

/-- Within a region: the frame, its deferred calls, and which boxes were touched by operations that may come in either order. -/
structure RSt where
  st : St
  df : List IDefer
  lg : Nat → Option (Nat × Nat)

inductive Stop where
  | run (r : RSt)
  | pan (v : D) (r : RSt)

/-- what an operation may know that comes in any order: what was there before the region, and what its own past has made -/
def view (δ past : Nat) (st : St) : St :=
  { st with S := fun d i => if (decide (d = δ) && decide (st.m ≤ i)) && !past.testBit (i - st.m) then .none else st.S d i,
            live := fun t => st.live t && (decide (t < st.nt) || past.testBit (t - st.nt)) }
/-- what it has done there, in the frame -/
def merge (δ j : Nat) (st sv s' : St) : St :=
  { st with S := upd2 st.S δ (st.m + j) (s'.S δ (st.m + j)), live := fun t => if t = st.nt + j then s'.live t else st.live t && !(sv.live t && !s'.live t) }

def boxOf : D → Option (Nat × Nat)
  | .ptr d i _ => some (d, i)
  | _ => none
def nearOk (near : List Nat) (lg : Nat → Option (Nat × Nat)) (b : Option (Nat × Nat)) : Bool :=
  near.all fun p => match lg p, b with
    | some x, some y => !(x == y)
    | _, _ => true
def isFn : D → Bool
  | .fn .. => true
  | _ => false
def noTok : D → Bool
  | .slice (.tok _) _ _ => false
  | _ => true

def stepPlain (δ j : Nat) (o : IOper) (r : RSt) : Option RSt :=
  if o.iso then (evalOp δ j o.op r.st).map fun p => { r with st := putD p.2 o.dst p.1 }
  else match o.op with
  | .store s a x =>
    if o.un && noTok (ev r.st.σ x) && nearOk o.near r.lg (boxOf (ev r.st.σ a)) then
      (storeOp s (ev r.st.σ a) (ev r.st.σ x) r.st).map fun s' => { r with st := putD s' o.dst .undef, lg := upd r.lg j (boxOf (ev r.st.σ a)) }
    else none
  | .load g s x =>
    if nearOk o.near r.lg (boxOf (ev r.st.σ x)) then
      (loadOp g s (ev r.st.σ x) (view δ o.past r.st)).map fun d => { r with st := putD r.st o.dst (if o.near.isEmpty then d else d.degr), lg := upd r.lg j (boxOf (ev r.st.σ x)) }
    else none
  | op =>
    if takesOp op && !o.tiso then none else
    match evalOp δ j op (view δ o.past r.st) with
    | some (d, s') => if s'.now = r.st.now then some { r with st := putD (merge δ j r.st (view δ o.past r.st) s') o.dst d } else none
    | none => none

def afterCall (st : St) (iso : Bool) (rt : Ret) : Option St :=
  match rt.S' with
  | none => some st
  | some S' => if iso then some { st with S := S', now := st.now + 1, low := min st.low rt.low } else none

def stepCall (cx : Cx) (j : Nat) (o : IOper) (own : Bool) (r : RSt) (rt : Ret) : Option (RSt ⊕ (D × RSt)) :=
  match afterCall r.st o.iso rt with
  | none => none
  | some st' => match rt.out with
    | .ret d => if own then some (.inl { r with st := putD (adopt j st' d).2 o.dst (adopt j st' d).1 }) else some (.inl { r with st := putD st' o.dst d.degr })
    | .pan v => if o.pok then some (.inr (v, { r with st := st' })) else none

def stepW (call : CallF) (cx : Cx) (j : Nat) (o : IOper) (r : RSt) : Option (RSt ⊕ (D × RSt)) :=
  match o.op with
  | .call own f args =>
    match call none (ev r.st.σ f) ((evs r.st.σ args).map D.degr) (if o.iso then r.st.S else (view cx.δ o.past r.st).S) (cx.δ + 1) with
    | none => none
    | some rt => stepCall cx j o own r rt
  | .panic x => match ev r.st.σ x with
    | .iface t v => if o.pok then some (.inr (.iface t v, r)) else none
    | _ => none
  | .recov => if cx.round.isNone && o.iso then
      match r.st.pend with
      | some v => some (.inl { r with st := putD { r.st with pend := none, recd := true } o.dst v })
      | none => some (.inl { r with st := putD r.st o.dst .nili })
    else none
  | .defer f args => if (cx.round.isNone && o.iso) && isFn (ev r.st.σ f) then some (.inl { r with st := putD r.st o.dst .undef, df := .call (ev r.st.σ f).degr ((evs r.st.σ args).map D.degr) :: r.df }) else none
  | _ => (stepPlain cx.δ j o r).map .inl

def stepO (call : CallF) (cx : Cx) (j : Nat) (o : IOper) (r : RSt) : Option (RSt ⊕ (D × RSt)) :=
  match wanted r.st o with
  | none => none
  | some true => stepW call cx j o r
  | some false => some (.inl { r with st := putD r.st o.dst (.tup []) })

/-- The operations of a region, in the order of the text. -/
def runL (call : CallF) (cx : Cx) : List (Nat × IOper) → RSt → Option Stop
  | [], r => some (.run r)
  | (j, o) :: rest, r => match stepO call cx j o r with
    | none => none
    | some (.inl r') => runL call cx rest r'
    | some (.inr (v, r')) => some (.pan v r')

def number : Nat → List IOper → List (Nat × IOper)
  | _, [] => []
  | n, o :: os => (n, o) :: number (n + 1) os

/-! ### Results -/
mutual
/-- a result as the caller gets it: boxes of the frame have become constants -/
def expD (S : Store) (δ : Nat) : Nat → D → Option D
  | 0, _ => none
  | n + 1, .ptr d i off => if d < δ then some (.ptr d i off) else match S d i with
    | .cells cs => match expDs S δ n (cs.drop off) with
      | some cs' => if D.pures cs' then some (.cptr (cs'.map D.degr1)) else none
      | none => none
    | _ => none
  | n + 1, .fn f a b => match expDs S δ n a, expDs S δ n b with
    | some a', some b' => some (.fn f a' b')
    | _, _ => none
  | _ + 1, .vsl d i off len s c => if d < δ then some (.vsl d i off len s c) else match S d i with
    | .cells cs => if off + len * s ≤ cs.length ∧ D.pures cs then some (.slice .none s (chunks s len ((cs.drop off).map D.degr1))) else none
    | _ => none
  | n + 1, .agg cs => (expDs S δ n cs).map .agg
  | _ + 1, .tup _ => none
  | _ + 1, .yld d i => if d < δ then some (.yld d i) else none
  | n + 1, .iface t v => (expD S δ n v).map (.iface t)
  | _ + 1, d => some d
def expDs (S : Store) (δ : Nat) : Nat → List D → Option (List D)
  | 0, _ => none
  | _ + 1, [] => some []
  | n + 1, d :: ds => match expD S δ n d with
    | none => none
    | some d' => match expDs S δ n ds with
      | none => none
      | some ds' => some (d' :: ds')
end

/-- the right that a result keeps -/
def keepD (own : Bool) (live : Nat → Bool) : D → D
  | .slice (.tok t) s xs => if own && live t then .slice .own s xs else .slice .none s xs
  | d => d.degr

def FUEL : Nat := 400

def oneRes (cx : Cx) (st : St) : IRes → Option D
  | .tmp t => (expD st.S cx.δ FUEL (st.σ t)).map (keepD cx.own st.live)
  | .cell a agg s => match loadOp agg s (st.σ a) { st with now := st.now + 1 } with
    | some d => (expD st.S cx.δ FUEL d).map (keepD false st.live)
    | none => none
def allRes (cx : Cx) (st : St) : List IRes → Option (List D)
  | [] => some []
  | r :: rs => match oneRes cx st r with
    | none => none
    | some d => match allRes cx st rs with
      | none => none
      | some ds => some (d :: ds)

def resultD (cx : Cx) (st : St) : Option D :=
  match allRes { cx with own := cx.own && cx.results.length == 1 } st cx.results with
  | none => none
  | some [d] => some d
  | some ds => some (.tup ds)

def retOf (cx : Cx) (st : St) (o : Out) : Ret := ⟨o, st.recd, st.low, if st.low < cx.δ then some (trim cx.δ st.S) else none⟩

inductive Leave where
  | ret
  | pan (v : D)

/-- The frame is left: deferred calls, then the results. -/
def leave (call : CallF) (cx : Cx) : List IDefer → Leave → St → Option Ret
  | [], .ret, st => (resultD cx st).map fun d => retOf cx st (.ret d)
  | [], .pan v, st => if v.pure then some (retOf cx st (.pan v)) else none
  | .mark :: df, l, st => leave call cx df l st
  | .call f args :: df, l, st =>
    match call (some (match l with | .ret => none | .pan v => some v)) f args st.S (cx.δ + 1) with
    | none => none
    | some r =>
      let st' := match r.S' with | none => st | some S' => { st with S := S', now := st.now + 1, low := min st.low r.low }
      match r.out with
      | .pan _ => none
      | .ret _ => leave call cx df (match l with | .ret => .ret | .pan v => if r.recd then .ret else .pan v) st'

/-! ### The frame -/
inductive Item where
  | code (c : IC)
  | inBlock (id : Nat)
  | inLoop (b : IC)
  | inScope
  | beginRound

def exitTo (id : Nat) : List Item → Option (List Item)
  | .inBlock id' :: k => if id' = id then some k else exitTo id k
  | _ :: k => exitTo id k
  | [] => none

def initSt (args : List D) (S : Store) (δ : Nat) (pend : Option D) : St :=
  { σ := fun i => (args[i]?).getD .undef, S, m := 0, live := fun _ => false, nt := 0, now := 0, low := δ, pend, recd := false }

/-- what a Go function is: its text, or what is known of it -/
inductive FE where
  | ir (f : IFunc)
  | ext (g : List D → Option D)

abbrev FT := FuncId → Option FE

def setLoop (S : Store) (d i : Nat) (st : LState) (pending : Option Jump) : Option Store :=
  match S d i with
  | .loop r => some (upd2 S d i (.loop { r with state := st, pending }))
  | _ => none

def leaveRound (cx : Cx) (d i : Nat) (jump : Option Jump) (st : St) : Option Ret :=
  match setLoop st.S d i (if jump.isNone then .ready else .done) jump with
  | some S' => some ⟨.ret (.bool jump.isNone), false, min st.low d, some (trim cx.δ S')⟩
  | none => none

def setParams (σ : Nat → D) : List Nat → List D → Nat → D
  | t :: ts, d :: ds => setParams (upd σ t d) ts ds
  | _, _ => σ

abbrev RunF := Cx → List Item → List IDefer → St → Option Ret

/-- nothing is there -/
def S0 : Store := fun _ _ => .none

def D.pureR : D → Bool
  | .tup ds => D.pures ds
  | d => d.pure

/-- what a call of values without pointers to boxes comes to, wherever it is made -/
def isoRet (δ : Nat) (rt : Ret) : Option Ret :=
  if rt.S'.isNone && !rt.recd then
    match rt.out with
    | .ret d => if d.pureR then some ⟨.ret d, false, δ, none⟩ else none
    | .pan v => if v.pure then some ⟨.pan v, false, δ, none⟩ else none
  else none

/-- a call, if frames run so -/
def mkCall (ft : FT) (run : RunF) : CallF := fun kd f args S δ =>
  match f with
  | .fn f first cap => match ft f with
    | some (.ir fn) => if (first ++ args ++ cap).length ≤ fn.nt then
        if kd.isNone && D.pures (first ++ args ++ cap) then
          match run ⟨1, fn.own, fn.results, none⟩ [.code fn.body] [] (initSt ((first ++ args ++ cap).map D.degr) S0 1 none) with
          | some rt => isoRet δ rt
          | none => none
        else run ⟨δ, fn.own, fn.results, none⟩ [.code fn.body] [] (initSt ((first ++ args ++ cap).map D.degr) S δ kd.join)
      else none
    | some (.ext g) => match kd with
      | none => (g (first ++ args ++ cap)).map fun d => ⟨.ret d, false, δ, none⟩
      | some _ => none
    | none => none
  | .yld d i => match S d i with
    | .loop r => if r.params.length = args.length ∧ kd.isNone then
        run ⟨δ, false, [], some (d, i)⟩ [.code r.assign, .beginRound, .code r.body] []
          { σ := setParams r.σ r.params (args.map D.degr), S, m := 0, live := fun _ => false, nt := 0, now := 0, low := δ, pend := none, recd := false }
      else none
    | _ => none
  | _ => none

/-- the frame's text is at its end -/
def outOf (call : CallF) (cx : Cx) (df : List IDefer) (st : St) (jump : Option Jump) : Option Ret :=
  match cx.round with
  | some (d, i) => match df with
    | [] => leaveRound cx d i jump st
    | _ => none
  | none => match jump with
    | some (.exit _) => none
    | _ => leave call cx df .ret st

/-- a loop over a function has come back -/
def loopBack (run : RunF) (call : CallF) (cx : Cx) (k : List Item) (df : List IDefer) (st1 : St) (l : Nat) : Out → Option Ret
  | .pan v => leave call cx (.mark :: df) (.pan v) st1
  | .ret _ => match st1.S cx.δ l with
    | .loop lr => if lr.state = .busy then none else
      match lr.pending with
      | none => run cx k (.mark :: df) { st1 with S := upd2 st1.S cx.δ l .none, now := st1.now + 1, low := min st1.low cx.δ }
      | some (.exit id) => run cx (.code (.exit id) :: k) (.mark :: df) { st1 with S := upd2 st1.S cx.δ l .none, now := st1.now + 1, low := min st1.low cx.δ }
      | some .ret => run cx (.code .ret :: k) (.mark :: df) { st1 with S := upd2 st1.S cx.δ l .none, now := st1.now + 1, low := min st1.low cx.δ }
    | _ => none

def loopObj (δ : Nat) (st : St) (params : List Nat) (assign body : IC) : Obj :=
  .loop { state := .ready, pending := none, σ := fun t => (st.σ t).snap δ, params, assign, body }

/-- a step of a frame -/
def stepR (run : RunF) (call : CallF) (cx : Cx) (todo : List Item) (df : List IDefer) (st : St) : Option Ret :=
  match todo with
  | [] => outOf call cx df st none
  | .code .skip :: k => run cx k df st
  | .inBlock _ :: k => run cx k df st
  | .inScope :: k => run cx k df st
  | .inLoop b :: k => run cx (.code b :: .inLoop b :: k) df st
  | .code (.loop b) :: k => run cx (.code b :: .inLoop b :: k) df st
  | .code (.scope b) :: k => run cx (.code b :: .inScope :: k) df st
  | .code (.block id b) :: k => run cx (.code b :: .inBlock id :: k) df st
  | .code (.seq a b) :: k => run cx (.code a :: .code b :: k) df st
  | .code (.cond c a b) :: k => match ev st.σ c with
    | .bool true => run cx (.code a :: k) df st
    | .bool false => run cx (.code b :: k) df st
    | _ => none
  | .code (.exit id) :: k => match exitTo id k with
    | some k' => run cx k' df st
    | none => outOf call cx df st (some (.exit id))
  | .code .ret :: _ => outOf call cx df st (some .ret)
  | .beginRound :: k => match cx.round with
    | some (d, i) => match st.S d i with
      | .loop r => if r.state = .ready then run cx k df { st with S := upd2 st.S d i (.loop { r with state := .busy }), now := st.now + 1, low := min st.low d } else none
      | _ => none
    | none => none
  | .code (.region ops) :: k => match runL call cx (number 0 ops) ⟨st, df, fun _ => none⟩ with
    | none => none
    | some (.run r) => run cx k r.df { r.st with m := r.st.m + ops.length, nt := r.st.nt + ops.length }
    | some (.pan v r) => match cx.round with
      | some _ => match r.df with
        | [] => if v.pure then some (retOf cx r.st (.pan v)) else none
        | _ => none
      | none => leave call cx r.df (.pan v) r.st
  | .code (.rangeFunc f params assign body) :: k =>
    match cx.round with
    | some _ => none
    | none => match call none (ev st.σ f) [.yld cx.δ st.m] (upd2 st.S cx.δ st.m (loopObj cx.δ st params assign body)) (cx.δ + 1) with
      | none => none
      | some r => loopBack run call cx k df { st with S := r.S'.getD (upd2 st.S cx.δ st.m (loopObj cx.δ st params assign body)), m := st.m + 1, nt := st.nt + 1, now := st.now + 1, low := min st.low r.low } st.m r.out

/-- n steps of a frame, calls within. -/
def R (ft : FT) : Nat → RunF
  | 0 => fun _ _ _ _ => none
  | n + 1 => stepR (R ft n) (mkCall ft (R ft n))
end Go.Mia
/- From the loaded program's code to the reading's own operations; it refuses what the reading does not know. -/
namespace Go.Mia

/-- what is chosen: at (function, slot) a slice whose elements will be written; functions whose result may be appended to -/
structure Pol where
  vec : List (Nat × Nat)
  own : List Nat
  /-- slices.Clone, slices.Grow -/
  clones : List Nat
  grows : List Nat

def isAggT (P : Program) (t : TypeId) : Option Bool :=
  match P.underlying t with
  | some (.struct _) | some (.array ..) => some true
  | some _ => some false
  | none => none
def sizeT (P : Program) (t : TypeId) : Option Nat := (P.info? t).map (·.size)

/-- a slice's stride, where the type is known to be a slice -/
def strideT (P : Program) (t : TypeId) : Nat :=
  match P.underlying t with
  | some (.slice e) => P.cellsOf e
  | _ => 0

/-- a constant of one cell -/
def lit1 (s : Nat) : Value → Option D
  | .bool b => some (.bool b)
  | .int k n => some (.int k n)
  | .string s => some (.str s.data.toList)
  | .pointer none => some .nilp
  | .slice none 0 0 => some (.slice .full s [])
  | .nilFunc => some .nilf
  | .nilIface => some .nili
  | _ => none

def joinO : List (Option (List Nat)) → Option (List Nat)
  | [] => some []
  | some a :: r => match joinO r with
    | some b => some (a ++ b)
    | none => none
  | none :: _ => none
/-- the strides of the slices among a type's cells -/
def stridesT (P : Program) : Nat → TypeId → Option (List Nat)
  | 0, _ => none
  | n + 1, t => match P.underlying t with
    | some (.struct fs) => joinO (fs.toList.map fun f => stridesT P n f.type)
    | some (.array len e) => (stridesT P n e).map fun l => (List.replicate len l).flatten
    | some (.slice e) => some [P.cellsOf e]
    | some _ => some [0]
    | none => none

def lits : List Nat → List Value → Option (List D)
  | [], [] => some []
  | s :: ss, v :: vs => match lit1 s v, lits ss vs with
    | some d, some ds => some (d :: ds)
    | _, _ => none
  | _, _ => none

def zeroT (P : Program) (t : TypeId) : Option (List D) :=
  match (P.info? t).bind (·.zero), stridesT P 10 t with
  | some z, some ss => lits ss z.cells.toList
  | _, _ => none

def constD (P : Program) (t : TypeId) : Value → Option D
  | .agg vs => match stridesT P 10 t with
    | some ss => (lits ss vs.toList).map .agg
    | none => none
  | v => lit1 (strideT P t) v

/-- a type's zero value, as a value -/
def zeroV (P : Program) (t : TypeId) : Option D :=
  match (P.info? t).bind (·.zero) with
  | some z => constD P t z
  | none => none

def opnd (P : Program) (t : TypeId) : Operand → Option Opnd
  | .tmp t => some (.tmp t)
  | .const v => (constD P t v).map .const
  | .func f => some (.const (.fn f [] []))
  | .global _ => none
def opnds (P : Program) : List TypeId → List Operand → Option (List Opnd)
  | _, [] => some []
  | [], x :: xs => match opnd P 0 x, opnds P [] xs with
    | some y, some ys => some (y :: ys)
    | _, _ => none
  | t :: ts, x :: xs => match opnd P t x, opnds P ts xs with
    | some y, some ys => some (y :: ys)
    | _, _ => none
def optOpnd (P : Program) : Option Operand → Option (Option Opnd)
  | none => some none
  | some x => (opnd P 0 x).map some

def leavesGo (P : Program) (rec : TypeId → Option (List Leaf)) : Nat → List Field → Option (List Leaf)
  | _, [] => some []
  | off, f :: fs => if f.name = "_" ∨ f.offset ≠ off then none else
    match rec f.type with
    | none => none
    | some a => if P.cellsOf f.type = a.length then (leavesGo P rec (off + a.length) fs).map (a ++ ·) else none
def leavesT (P : Program) : Nat → TypeId → Option (List Leaf)
  | 0, _ => none
  | n + 1, t => match P.underlying t with
    | some .bool => some [.bool]
    | some (.int _) => some [.int]
    | some .string => some [.str]
    | some (.struct fs) => if P.stoodInHeld t then none else leavesGo P (leavesT P n) 0 fs.toList
    | _ => none

def isConstO : Operand → Bool
  | .const _ => true
  | _ => false

def eqKOf (P : Program) (t : TypeId) (x y : Operand) : Option EqK :=
  match P.underlying t with
  | some (.int _) => some .int
  | some .string => some .str
  | some .bool => some .bool
  | some (.pointer _) => some .ptr
  | some (.func ..) => some .func
  | some (.interface _) => if isConstO x || isConstO y then some .iface else none
  | some (.struct _) => match leavesT P 10 t with
    | some ls => if P.cellsOf t = ls.length ∧ P.eqGuardType P.depth t = false then some (.agg ls) else none
    | none => none
  | _ => none

def partsOf (P : Program) (fs : Array Field) : List (Nat × Operand) → Option (List (Nat × Nat × Opnd))
  | [] => some []
  | (i, x) :: ps => match fs[i]? with
    | none => none
    | some f => match opnd P f.type x, sizeT P f.type, partsOf P fs ps with
      | some y, some s, some qs => some ((f.offset, s, y) :: qs)
      | _, _, _ => none
def partsArr (P : Program) (e : TypeId) (s : Nat) : List (Nat × Operand) → Option (List (Nat × Nat × Opnd))
  | [] => some []
  | (i, x) :: ps => match opnd P e x, partsArr P e s ps with
    | some y, some qs => some ((i * s, s, y) :: qs)
    | _, _ => none
def inOrder (n : Nat) : List (Nat × Operand) → Bool
  | [] => true
  | (i, _) :: ps => i == n && inOrder (n + 1) ps

def isConcrete (P : Program) (t : TypeId) : Bool :=
  match P.underlying t with
  | some (.interface _) | none => false
  | some _ => true

/-- the element type, its stride and its bytes -/
def sliceInfo (P : Program) (t : TypeId) : Option (TypeId × Nat × Nat) :=
  match P.underlying t with
  | some (.slice e) => (P.info? e).map fun i => (e, i.size, i.bytes)
  | _ => none

def trBuiltin (P : Program) (pol : Pol) (f : Nat) (o : Oper) (c : Call) (b : Builtin) : Option IOp :=
  match b, c.args.toList, c.argTypes.toList with
  | .len, [x], t :: _ => match P.underlying t with
    | some .string => (opnd P t x).map (.len .str)
    | some (.slice _) => (opnd P t x).map (.len .slice)
    | _ => none
  | .max, x :: xs, t :: _ => match P.underlying t with
    | some (.int _) => (opnds P [] (x :: xs)).map (.minmax true)
    | _ => none
  | .min, x :: xs, t :: _ => match P.underlying t with
    | some (.int _) => (opnds P [] (x :: xs)).map (.minmax false)
    | _ => none
  | .append, [x, y], [t, u] => match sliceInfo P t, P.underlying u, opnd P t x, opnd P u y with
    | some (e, s, bytes), some ud, some x', some y' =>
      if bytes ≤ 1048576 ∧ bytes ≠ 0 ∧ s ≠ 0 ∧ ((P.info? e).bind (·.zero)).any (fun z => z.cells.size == s) then
        let vec := match o.dst with | some d => pol.vec.contains (f, d) | none => false
        match ud with
        | .string => if P.underlying e matches some (.int .u8) then some (.append vec true s bytes x' y') else none
        | .slice _ => some (.append vec false s bytes x' y')
        | _ => none
      else none
    | _, _, _, _ => none
  | .clear, [x], [t] => match sliceInfo P t with
    | some (e, _, _) => match zeroT P e, opnd P t x with
      | some zs, some x => some (.clear zs x)
      | _, _ => none
    | none => none
  | .recover, [], _ => some .recov
  | _, _, _ => none

/-- the type of a function's first parameter -/
def paramT (P : Program) (h : Nat) : TypeId := ((P.funcs[h]?).map fun fn => fn.params.getD 0 0).getD 0

def trOp (P : Program) (pol : Pol) (f : Nat) (o : Oper) : Option IOp :=
  match o.op with
  | .move x | .assign x => (opnd P o.type x).map .mv
  | .pick c a b => match opnd P 0 c, opnd P o.type a, opnd P o.type b with
    | some c, some a, some b => some (.pick c a b)
    | _, _, _ => none
  | .alloc t => (zeroT P t).map .alloc
  | .box t x => (opnd P t x).map .box
  | .build t ps => match zeroT P t, P.underlying t with
    | some zs, some (.struct fs) => if fs.all (fun f => (P.info? f.type).isSome) then (partsOf P fs ps.toList).map (.build zs) else none
    | some zs, some (.array _ e) => match sizeT P e with
      | some s => (partsArr P e s ps.toList).map (.build zs)
      | none => none
    | _, _ => none
  | .buildSlice t n ps => match sliceInfo P t with
    | some (e, s, _) =>
      if inOrder 0 ps.toList && ps.size == n && decide (n * s ≤ 2 ^ 24) && ((P.info? e).bind (·.zero)).any (fun z => z.cells.size == s) then
        (opnds P (List.replicate n e) (ps.toList.map (·.2))).map (.buildSl s)
      else none
    | none => none
  | .load t x => match isAggT P t, sizeT P t, opnd P 0 x with
    | some a, some s, some x => if a || s == 1 then some (.load a s x) else none
    | _, _, _ => none
  | .store t a x => match sizeT P t, opnd P 0 a, opnd P t x with
    | some s, some a, some x => some (.store s a x)
    | _, _, _ => none
  | .nilCheck x => (opnd P 0 x).map .nilck
  | .binOp op t x y _ => match op with
    | .eql => match eqKOf P t x y, opnd P t x, opnd P t y with
      | some k, some x, some y => some (.eq false k x y)
      | _, _, _ => none
    | .neq => match eqKOf P t x y, opnd P t x, opnd P t y with
      | some k, some x, some y => some (.eq true k x y)
      | _, _, _ => none
    | op => match opnd P t x, opnd P t y with
      | some x, some y => some (.bin op x y)
      | _, _ => none
  | .unOp op t x => (opnd P t x).map (.un op)
  | .convert src dst x => match P.underlying src, P.underlying dst, opnd P src x with
    | some (.int _), some (.int k), some x => some (.toInt k x)
    | some .string, some .string, some x => some (.same x)
    | some .string, some (.slice e), some x => if P.underlying e matches some (.int .u8) then some (.strBytes x) else none
    | some (.slice e), some .string, some x => if P.underlying e matches some (.int .u8) then some (.bytesStr x) else none
    | _, _, _ => none
  | .makeInterface t x => if isConcrete P t then (opnd P t x).map (.mkI t) else none
  | .makeFunc (.func f) first cap => match opnds P [] first.toList, opnds P [] cap.toList with
    | some a, some b => some (.mkF f a b)
    | _, _ => none
  | .makeSlice t l c => match sliceInfo P t, opnd P 0 l, opnd P 0 c with
    | some (e, s, bytes), some l', some c' =>
      if bytes ≠ 0 ∧ s ≠ 0 then
        match l', c' with
        | .tmp a, .tmp b => if a = b then match zeroT P e with | some zs => if zs.length = s then some (.mkSl s bytes zs (.tmp a)) else none | none => none else none
        | .const (.int k 0), c' => if ((P.info? e).bind (·.zero)).any (fun z => z.cells.size == s) then some (.mkCap s bytes c') else none
        | .const (.int _ a), .const (.int k b) => if a = b then match zeroT P e with | some zs => if zs.length = s then some (.mkSl s bytes zs (.const (.int k b))) else none | none => none else none
        | _, _ => none
      else none
    | _, _, _ => none
  | .slice t x lo hi mx => match optOpnd P lo, optOpnd P hi, optOpnd P mx, opnd P t x with
    | some l, some h, some m, some x => match P.underlying t with
      | some .string => if m.isNone then some (.slice 0 x l h m) else none
      | some (.slice e) => match sizeT P e with
        | some s => if s ≠ 0 ∧ (m.isNone || h.isSome) then some (.slice s x l h m) else none
        | none => none
      | _ => none
    | _, _, _, _ => none
  | .fieldAddr t x i => match P.underlying t, opnd P 0 x with
    | some (.struct fs), some x => match fs[i]? with
      | some f => match sizeT P f.type with
        | some s => if s = 0 then none else some (.fld f.offset x)
        | none => none
      | none => none
    | _, _ => none
  | .field t x i => match P.underlying t, opnd P t x with
    | some (.struct fs), some x => match fs[i]? with
      | some f => match isAggT P f.type, sizeT P f.type with
        | some a, some s => if a || s == 1 then some (.fldv a f.offset s x) else none
        | _, _ => none
      | none => none
    | _, _ => none
  | .indexAddr t x i => match P.underlying t, opnd P t x, opnd P 0 i with
    | some (.array n e), some x, some i => (sizeT P e).map fun s => .idx (some n) s x i
    | some (.slice e), some x, some i => (sizeT P e).map fun s => .idx none s x i
    | _, _, _ => none
  | .index t x i => match P.underlying t, opnd P t x, opnd P 0 i with
    | some .string, some x, some i => some (.idxs x i)
    | some (.array n e), some x, some i => match isAggT P e, sizeT P e with
      | some a, some s => if a || s == 1 then some (.idxa a n s x i) else none
      | _, _ => none
    | _, _, _ => none
  | .extract x i => (opnd P 0 x).map (.ext · i)
  | .typeAssert x _ t ok => if isConcrete P t then
      match zeroV P t, opnd P 0 x with
      | some z, some x => some (.tas t z ok x)
      | _, _ => none
    else none
  | .call { callee := .builtin b, args, argTypes } => trBuiltin P pol f o { callee := .builtin b, args, argTypes } b
  | .call { callee := .value g, args, argTypes } =>
    match opnd P 0 g, opnds P argTypes.toList args.toList with
    | some g', some xs =>
      match g with
      | .func h =>
        if pol.clones.contains h then
          match sliceInfo P (paramT P h), xs with
          | some (_, s, bytes), [x] => some (.clone (match o.dst with | some d => pol.vec.contains (f, d) | none => false) h s bytes x)
          | _, _ => none
        else if pol.grows.contains h then
          match sliceInfo P (paramT P h), xs with
          | some (e, s, bytes), [x, n] => match zeroT P e with | some zs => if zs.length = s then some (.grow h s bytes zs x n) else none | none => none
          | _, _ => none
        else some (.call (pol.own.contains h) g' xs)
      | _ => some (.call false g' xs)
    | _, _ => none
  | .defer { callee := .value g, args, argTypes } =>
    match opnd P 0 g, opnds P argTypes.toList args.toList with
    | some g, some xs => some (.defer g xs)
    | _, _ => none
  | .panic x => (opnd P 0 x).map .panic
  | _ => none

/-! ### Regions that draw their order -/
/-- ancestors, as bits -/
def anc (ops : List Oper) : List Nat :=
  (Region.before ops.toArray).toList

/-- i before j by the edges -/
def before (b : List Nat) (i j : Nat) : Bool := (b.getD j 0).testBit i

def cmp (b : List Nat) (i j : Nat) : Bool := before b i j || before b j i
def opAt (ios : List IOp) (j : Nat) : IOp := ios.getD j (.mv (.const .undef))
def isLoad : IOp → Bool
  | .load .. => true
  | _ => false
def isStore : IOp → Bool
  | .store .. => true
  | _ => false
def isoOf (b : List Nat) (ios : List IOp) (i : Nat) : Bool :=
  quietOp (opAt ios i) || (List.range ios.length).all fun j => j == i || quietOp (opAt ios j) || cmp b i j
def pokOf (b : List Nat) (n i : Nat) : Bool :=
  (List.range n).all fun j => j == i || cmp b i j
def tisoOf (b : List Nat) (ios : List IOp) (i : Nat) : Bool :=
  (List.range ios.length).all fun j => j == i || !takesOp (opAt ios j) || cmp b i j
def unOf (b : List Nat) (ios : List IOp) (i : Nat) : Bool :=
  isStore (opAt ios i) && (List.range ios.length).all fun j => j == i || quietOp (opAt ios j) || isLoad (opAt ios j) || cmp b i j
def nearOf (b : List Nat) (ios : List IOp) (i : Nat) : List Nat :=
  if isLoad (opAt ios i) then (List.range ios.length).filter fun j => isStore (opAt ios j) && !cmp b i j
  else if isStore (opAt ios i) then (List.range ios.length).filter fun j => isLoad (opAt ios j) && !cmp b i j
  else []

def trOps (P : Program) (pol : Pol) (f : Nat) : List Oper → Option (List IOp)
  | [] => some []
  | o :: os => match trOp P pol f o, trOps P pol f os with
    | some a, some b => some (a :: b)
    | _, _ => none

def guardOf (ops : List Oper) (o : Oper) : Option (Option (Nat × Bool)) :=
  match o.guard with
  | none => some none
  | some (j, b) => match (ops[j]?).bind (·.dst) with
    | some t => some (some (t, b))
    | none => none

def mkOpers (ops : List Oper) (draw : Bool) (b : List Nat) (ios : List IOp) : (i : Nat) → List Oper → List IOp → Option (List IOper)
  | _, [], [] => some []
  | i, o :: os, io :: is => match guardOf ops o, mkOpers ops draw b ios (i + 1) os is with
    | some g, some rest =>
      if draw then some ({ dst := o.dst, op := io, guard := g, iso := isoOf b ios i, pok := pokOf b ios.length i, tiso := tisoOf b ios i, un := unOf b ios i, past := b.getD i 0, near := nearOf b ios i } :: rest)
      else some ({ dst := o.dst, op := io, guard := g } :: rest)
    | _, _ => none
  | _, _, _ => none

def dstsOk (n : Nat) (ops : List Oper) : Bool := ops.all fun o => match o.dst with | some d => decide (d < n) | none => true

def IOper.names (o : IOper) : List Nat := o.dst.toList ++ o.op.slots ++ (match o.guard with | some (t, _) => [t] | none => [])
/-- operations that may come in either order do not look at what the other one writes -/
def apartOk (b : List Nat) (os : List IOper) : Bool :=
  ((List.range os.length).all fun i => !before b i i) &&
  (List.range os.length).all fun i => (List.range os.length).all fun j => i == j || cmp b i j ||
    match (os.getD i default).dst with
    | some d => !(os.getD j default).names.contains d
    | none => true

/-- edges that bind lead back -/
def edgesBack (ops : Array Go.Oper) : Bool := (List.range ops.size).all fun i => match ops[i]? with
  | some o => o.after.all fun e => !Region.binds .any e || decide (e.on < i)
  | none => true

/-- every order that may be drawn is whole -/
def schedOk (ops : Array Go.Oper) : Bool := edgesBack ops && [Region.Mode.any, .text, .gc].all fun md => (Region.linearise md ops 0).length == ops.size

def trRegion (P : Program) (pol : Pol) (f n : Nat) (ops : Array Oper) (draw : Bool) : Option (List IOper) :=
  if dstsOk n ops.toList then
    match trOps P pol f ops.toList with
    | none => none
    | some ios =>
      match mkOpers ops.toList draw (if draw then anc ops.toList else []) ios 0 ops.toList ios with
      | none => none
      | some os => if !draw || (apartOk (anc ops.toList) os && schedOk ops) then some os else none
  else none

def trCode (P : Program) (pol : Pol) (f n : Nat) : Code → Option IC
  | .skip => some .skip
  | .region _ ops draw => (trRegion P pol f n ops draw).map .region
  | .seq a b => match trCode P pol f n a, trCode P pol f n b with
    | some a, some b => some (.seq a b)
    | _, _ => none
  | .cond c a b => match opnd P 0 c, trCode P pol f n a, trCode P pol f n b with
    | some c, some a, some b => some (.cond c a b)
    | _, _, _ => none
  | .block id b => (trCode P pol f n b).map (.block id)
  | .loop b => (trCode P pol f n b).map .loop
  | .scope b => (trCode P pol f n b).map .scope
  | .rangeFunc g ps a b => match opnd P 0 g, trCode P pol f n a, trCode P pol f n b with
    | some g, some a, some b => if ps.all (· < n) then some (.rangeFunc g ps.toList a b) else none
    | _, _, _ => none
  | .exit id => some (.exit id)
  | .ret => some .ret
  | .label _ => some .skip
  | .goto _ | .refuse _ => none

def trRes (P : Program) : ResultVar → Option IRes
  | .tmp t => some (.tmp t)
  | .cell a t => match isAggT P t, sizeT P t with
    | some g, some s => if g || s == 1 then some (.cell a g s) else none
    | _, _ => none
def trRess (P : Program) : List ResultVar → Option (List IRes)
  | [] => some []
  | r :: rs => match trRes P r, trRess P rs with
    | some a, some b => some (a :: b)
    | _, _ => none

def trFunc (P : Program) (pol : Pol) (f : Nat) : Option IFunc :=
  match P.funcs[f]? with
  | none => none
  | some fn => match fn.body with
    | none => none
    | some c => match trCode P pol f fn.ntmps c, trRess P fn.results.toList with
      | some ic, some rs => if fn.name = "runtime.NumGoroutine" then none else some { nt := fn.ntmps, own := pol.own.contains f, results := rs, body := ic }
      | _, _ => none
end Go.Mia
/- What a value by value says of a value in memory. -/
namespace Go.Mia

inductive Hold where
  | tok (d t : Nat)
  | cell (d i off : Nat)
  deriving DecidableEq

/-- A world, where the boxes lie, and who may append where. -/
structure K where
  w : World
  β : Nat → Nat → Option Nat
  sp : Hold → Option (Nat × Nat)

/-- a cell that nobody will write any more -/
structure K.Const (k : K) (b off : Nat) (v : Value) : Prop where
  cell : k.w.cell? ⟨b, off, none⟩ = some v
  box : ∀ d i, k.β d i ≠ some b
  sp : ∀ h o, k.sp h = some (b, o) → off < o

inductive Rep (k : K) : Value → D → Prop
  | undef (v : Value) : Rep k v .undef
  | bool (b : Bool) : Rep k (.bool b) (.bool b)
  | int (kd : IntKind) (n : Int) : Rep k (.int kd n) (.int kd n)
  | str (l : List UInt8) : Rep k (.string ⟨l.toArray⟩) (.str l)
  | nilp : Rep k (.pointer none) .nilp
  | ptr {d i off b : Nat} (h : k.β d i = some b) : Rep k (.pointer (some ⟨b, off, none⟩)) (.ptr d i off)
  | cptr {cs : List D} (b off : Nat) (vs : Nat → Value) (hp : D.pures cs = true) (h1 : ∀ d ∈ cs, d.cells = [d]) (hc : ∀ j, j < cs.length → k.Const b (off + j) (vs j))
      (hr : ∀ j d, cs[j]? = some d → Rep k (vs j) d) : Rep k (.pointer (some ⟨b, off, none⟩)) (.cptr cs)
  | slice {tk : Tk} {s : Nat} {xs : List D} {a : Option Addr} {len cap : Nat} (b off : Nat) (vs : Nat → Value) (hl : len = xs.length) (hle : len ≤ cap)
      (hf : tk = .full → cap = len) (he : elemsOk s xs = true) (ha : 0 < len → a = some ⟨b, off, none⟩)
      (hc : ∀ j, j < (xs.flatMap D.cells).length → k.Const b (off + j) (vs j)) (hr : ∀ j d, (xs.flatMap D.cells)[j]? = some d → Rep k (vs j) d) :
      Rep k (.slice a len cap) (.slice tk s xs)
  | vsl {d i off len s c : Nat} {a : Option Addr} {cap : Nat} (hle : len ≤ c) (hc : c ≤ cap) (ha : 0 < c → ∃ b, k.β d i = some b ∧ a = some ⟨b, off, none⟩) :
      Rep k (.slice a len cap) (.vsl d i off len s c)
  | fn {f : FuncId} {as bs : List D} (vs us : List Value) (hv : vs.length = as.length) (hu : us.length = bs.length)
      (ra : ∀ j d, as[j]? = some d → Rep k (vs.getD j undef) d) (rb : ∀ j d, bs[j]? = some d → Rep k (us.getD j undef) d) :
      Rep k (.func (.func f) vs.toArray us.toArray) (.fn f as bs)
  | yld {d i b : Nat} (h : k.β d i = some b) : Rep k (.func (.yield b) #[] #[]) (.yld d i)
  | nilf : Rep k .nilFunc .nilf
  | iface {t : TypeId} {v : Value} {d : D} (h : Rep k v d) : Rep k (.iface t v) (.iface t d)
  | nili : Rep k .nilIface .nili
  | agg {cs : List D} (vs : List Value) (hl : vs.length = cs.length) (h1 : ∀ d ∈ cs, d.cells = [d] ∧ d.isVal = true)
      (hr : ∀ j d, cs[j]? = some d → Rep k (vs.getD j undef) d) : Rep k (.agg vs.toArray) (.agg cs)
  | tup {ds : List D} (vs : List Value) (hl : vs.length = ds.length) (hr : ∀ j d, ds[j]? = some d → Rep k (vs.getD j undef) d) : Rep k (.tuple vs.toArray) (.tup ds)

def Reps (k : K) (vs : List Value) (ds : List D) : Prop := vs.length = ds.length ∧ ∀ j d, ds[j]? = some d → Rep k (vs.getD j undef) d

theorem Reps.nil {k : K} : Reps k [] [] := ⟨rfl, fun j d h => by simp at h⟩
theorem Reps.cons {k : K} {v : Value} {d : D} {vs : List Value} {ds : List D} (h : Rep k v d) (hs : Reps k vs ds) : Reps k (v :: vs) (d :: ds) := by
  refine ⟨by simp [hs.1], fun j e he => ?_⟩
  cases j with
  | zero => simp at he; subst he; simpa using h
  | succ j => simpa using hs.2 j e (by simpa using he)
theorem Reps.head {k : K} {v : Value} {d : D} {vs : List Value} {ds : List D} (h : Reps k (v :: vs) (d :: ds)) : Rep k v d := by simpa using h.2 0 d (by simp)
theorem Reps.tail {k : K} {v : Value} {d : D} {vs : List Value} {ds : List D} (h : Reps k (v :: vs) (d :: ds)) : Reps k vs ds :=
  ⟨by simpa using h.1, fun j e he => by simpa using h.2 (j + 1) e (by simpa using he)⟩
theorem Reps.append {k : K} {vs us : List Value} {ds es : List D} (h : Reps k vs ds) (h' : Reps k us es) : Reps k (vs ++ us) (ds ++ es) := by
  induction vs generalizing ds with
  | nil => cases ds with
    | nil => simpa using h'
    | cons d ds => have := h.1; simp at this
  | cons v vs ih => cases ds with
    | nil => have := h.1; simp at this
    | cons d ds => exact .cons h.head (ih h.tail)

theorem degr1_cells (d : D) : d.degr1.cells.length = d.cells.length := by cases d <;> rfl
theorem degr1_one {d : D} (h : d.cells = [d]) : d.degr1.cells = [d.degr1] := by cases d <;> first | exact h | rfl
theorem degr1_val (d : D) : d.degr1.isVal = d.isVal := by cases d <;> rfl
theorem degr1_pure (d : D) : d.degr1.pure = d.pure := by cases d <;> rfl
theorem degr1_upto (n : Nat) (d : D) : d.degr1.upto n = d.upto n := by cases d <;> rfl
theorem Rep.degr1 {k : K} {v : Value} {d : D} (h : Rep k v d) : Rep k v d.degr1 := by
  cases h with
  | slice b off vs hl hle hf he ha hc hr => exact .slice b off vs hl hle (by simp) he ha hc hr
  | undef v => exact .undef v
  | bool b => exact .bool b
  | int kd n => exact .int kd n
  | str l => exact .str l
  | nilp => exact .nilp
  | ptr h => exact .ptr h
  | cptr b off vs hp h1 hc hr => exact .cptr b off vs hp h1 hc hr
  | vsl hle hc ha => exact .vsl hle hc ha
  | fn vs us hv hu ra rb => exact .fn vs us hv hu ra rb
  | yld h => exact .yld h
  | nilf => exact .nilf
  | iface h => exact .iface h
  | nili => exact .nili
  | agg vs hl h1 hr => exact .agg vs hl h1 hr
  | tup vs hl hr => exact .tup vs hl hr
theorem Rep.degr {k : K} {v : Value} {d : D} (h : Rep k v d) : Rep k v d.degr := by
  cases h with
  | agg vs hl h1 hr =>
    refine .agg vs (by simpa using hl) (fun d hd => ?_) fun j d hd => ?_
    · obtain ⟨c, hc, rfl⟩ := List.mem_map.1 hd
      exact ⟨degr1_one (h1 c hc).1, (degr1_val c).trans (h1 c hc).2⟩
    · simp only [List.getElem?_map, Option.map_eq_some_iff] at hd
      obtain ⟨c, hc, rfl⟩ := hd
      exact (hr j c hc).degr1
  | slice b off vs hl hle hf he ha hc hr => exact .slice b off vs hl hle (by simp) he ha hc hr
  | undef v => exact .undef v
  | bool b => exact .bool b
  | int kd n => exact .int kd n
  | str l => exact .str l
  | nilp => exact .nilp
  | ptr h => exact .ptr h
  | cptr b off vs hp h1 hc hr => exact .cptr b off vs hp h1 hc hr
  | vsl hle hc ha => exact .vsl hle hc ha
  | fn vs us hv hu ra rb => exact .fn vs us hv hu ra rb
  | yld h => exact .yld h
  | nilf => exact .nilf
  | iface h => exact .iface h
  | nili => exact .nili
  | tup vs hl hr => exact .tup vs hl hr
theorem degr_tk (d : D) : ∀ tk s xs, d.degr = .slice tk s xs → tk = .full ∨ tk = .none := by
  intro tk s xs h
  cases d <;> simp [D.degr, D.degr1] at h
  exact .inr h.1.symm

/-- later: boxes stay where they are, constants stay what they are -/
structure Later (k k' : K) : Prop where
  β : ∀ d i b, k.β d i = some b → k'.β d i = some b
  const : ∀ b off v, k.Const b off v → k'.Const b off v

theorem Later.refl (k : K) : Later k k := ⟨fun _ _ _ h => h, fun _ _ _ h => h⟩
theorem Later.trans {a b c : K} (h : Later a b) (h' : Later b c) : Later a c := ⟨fun d i x hx => h'.β d i x (h.β d i x hx), fun b o v hv => h'.const b o v (h.const b o v hv)⟩

theorem Rep.later {k k' : K} (L : Later k k') {v : Value} {d : D} (h : Rep k v d) : Rep k' v d := by
  induction h with
  | undef v => exact .undef v
  | bool b => exact .bool b
  | int kd n => exact .int kd n
  | str l => exact .str l
  | nilp => exact .nilp
  | ptr h => exact .ptr (L.β _ _ _ h)
  | cptr b off vs hp h1 hc hr ih => exact .cptr b off vs hp h1 (fun j hj => L.const _ _ _ (hc j hj)) ih
  | slice b off vs hl hle hf he ha hc hr ih => exact .slice b off vs hl hle hf he ha (fun j hj => L.const _ _ _ (hc j hj)) ih
  | vsl hle hc ha => exact .vsl hle hc fun h => let ⟨b, hb, e⟩ := ha h; ⟨b, L.β _ _ _ hb, e⟩
  | fn vs us hv hu ra rb iha ihb => exact .fn vs us hv hu iha ihb
  | yld h => exact .yld (L.β _ _ _ h)
  | nilf => exact .nilf
  | iface h ih => exact .iface ih
  | nili => exact .nili
  | agg vs hl h1 hr ih => exact .agg vs hl h1 ih
  | tup vs hl hr ih => exact .tup vs hl ih
theorem Reps.later {k k' : K} (L : Later k k') {vs : List Value} {ds : List D} (h : Reps k vs ds) : Reps k' vs ds := ⟨h.1, fun j d hd => (h.2 j d hd).later L⟩

/-! ### Pure values ask nothing of boxes -/
/-- later, but boxes may have gone -/
def LaterC (k k' : K) : Prop := ∀ b off v, k.Const b off v → k'.Const b off v

theorem pures_get {cs : List D} (h : D.pures cs = true) : ∀ (j : Nat) (d : D), cs[j]? = some d → d.pure = true := by
  induction cs with
  | nil => intro j d hd; simp at hd
  | cons c cs ih =>
    simp only [D.pures, Bool.and_eq_true] at h
    intro j d hd
    cases j with
    | zero => simp at hd; subst hd; exact h.1
    | succ j => exact ih h.2 j d (by simpa using hd)
theorem pures_of {cs : List D} (h : ∀ d ∈ cs, d.pure = true) : D.pures cs = true := by
  induction cs with
  | nil => rfl
  | cons c cs ih => simp only [D.pures, Bool.and_eq_true]; exact ⟨h c (by simp), ih fun d hd => h d (by simp [hd])⟩
theorem pures_mem {cs : List D} (h : D.pures cs = true) : ∀ d ∈ cs, d.pure = true := fun d hd => by
  obtain ⟨j, hj⟩ := List.getElem?_of_mem hd; exact pures_get h j d hj
theorem pures_append {as bs : List D} : D.pures (as ++ bs) = (D.pures as && D.pures bs) := by
  induction as with
  | nil => simp [D.pures]
  | cons a as ih => simp [D.pures, ih, Bool.and_assoc]
theorem pure_cells {d : D} (h : d.pure = true) : D.pures d.cells = true := by
  cases d <;> simp_all [D.cells, D.pure, D.pures]
theorem flat_one {x : D} (h : x.flat = true) : ∀ c ∈ x.cells, c.cells = [c] := by
  intro c hc
  have key : c.isAgg = false → c.cells = [c] := by cases c <;> simp [D.isAgg, D.cells]
  cases x with
  | agg cs =>
    simp only [D.flat, List.all_eq_true, Bool.not_eq_true'] at h
    exact key (h c hc)
  | _ => simp only [D.cells, List.mem_singleton] at hc; subst hc; rfl
theorem elemsOk_mem {s : Nat} {xs : List D} (h : elemsOk s xs = true) : ∀ x ∈ xs, x.cells.length = s ∧ x.pure = true ∧ x.flat = true := by
  induction xs with
  | nil => intro x hx; simp at hx
  | cons c cs ih =>
    simp only [elemsOk, Bool.and_eq_true, decide_eq_true_eq] at h
    intro x hx
    rcases List.mem_cons.1 hx with rfl | hx
    · exact ⟨h.1.1.1, h.1.1.2, h.1.2⟩
    · exact ih h.2 x hx
theorem elemsOk_of {s : Nat} {xs : List D} (h : ∀ x ∈ xs, x.cells.length = s ∧ x.pure = true ∧ x.flat = true) : elemsOk s xs = true := by
  induction xs with
  | nil => rfl
  | cons c cs ih =>
    simp only [elemsOk, Bool.and_eq_true, decide_eq_true_eq]
    obtain ⟨h1, h2, h3⟩ := h c (by simp)
    exact ⟨⟨⟨h1, h2⟩, h3⟩, ih fun x hx => h x (by simp [hx])⟩
theorem pures_flat {xs : List D} (h : ∀ x ∈ xs, x.pure = true) : D.pures (xs.flatMap D.cells) = true := by
  refine pures_of fun d hd => ?_
  obtain ⟨x, hx, hd⟩ := List.mem_flatMap.1 hd
  exact pures_mem (pure_cells (h x hx)) d hd

theorem Rep.laterC {k k' : K} (L : LaterC k k') {v : Value} {d : D} (h : Rep k v d) : d.pure = true → Rep k' v d := by
  induction h with
  | undef v => intro h; simp [D.pure] at h
  | bool b => intro _; exact .bool b
  | int kd n => intro _; exact .int kd n
  | str l => intro _; exact .str l
  | nilp => intro _; exact .nilp
  | ptr h => intro h; simp [D.pure] at h
  | cptr b off vs hp h1 hc hr ih => intro _; exact .cptr b off vs hp h1 (fun j hj => L _ _ _ (hc j hj)) (fun j d hd => ih j d hd (pures_get hp j d hd))
  | slice b off vs hl hle hf he ha hc hr ih =>
    intro _
    exact .slice b off vs hl hle hf he ha (fun j hj => L _ _ _ (hc j hj)) (fun j d hd => ih j d hd (pures_get (pures_flat fun x hx => (elemsOk_mem he x hx).2.1) j d hd))
  | vsl hle hc ha => intro h; simp [D.pure] at h
  | fn vs us hv hu ra rb iha ihb =>
    intro h
    simp only [D.pure, Bool.and_eq_true] at h
    exact .fn vs us hv hu (fun j d hd => iha j d hd (pures_get h.1 j d hd)) (fun j d hd => ihb j d hd (pures_get h.2 j d hd))
  | yld h => intro h; simp [D.pure] at h
  | nilf => intro _; exact .nilf
  | iface h ih => intro h; exact .iface (ih (by simpa [D.pure] using h))
  | nili => intro _; exact .nili
  | agg vs hl h1 hr ih => intro h; exact .agg vs hl h1 fun j d hd => ih j d hd (pures_get (by simpa [D.pure] using h) j d hd)
  | tup vs hl hr ih => intro h; simp [D.pure] at h

/-! ### Values up to a level ask nothing of what lies above -/
structure LaterN (n : Nat) (k k' : K) : Prop where
  β : ∀ d i b, d ≤ n → k.β d i = some b → k'.β d i = some b
  const : LaterC k k'
theorem uptos_get {n : Nat} {cs : List D} (h : D.uptos n cs = true) : ∀ (j : Nat) (d : D), cs[j]? = some d → d.upto n = true := by
  induction cs with
  | nil => intro j d hd; simp at hd
  | cons c cs ih =>
    simp only [D.uptos, Bool.and_eq_true] at h
    intro j d hd
    cases j with
    | zero => simp at hd; subst hd; exact h.1
    | succ j => exact ih h.2 j d (by simpa using hd)
theorem Rep.laterN {n : Nat} {k k' : K} (L : LaterN n k k') {v : Value} {d : D} (h : Rep k v d) : d.upto n = true → Rep k' v d := by
  induction h with
  | undef v => intro h; simp [D.upto] at h
  | bool b => intro _; exact .bool b
  | int kd n => intro _; exact .int kd n
  | str l => intro _; exact .str l
  | nilp => intro _; exact .nilp
  | ptr h => intro hu; exact .ptr (L.β _ _ _ (by simpa [D.upto] using hu) h)
  | cptr b off vs hp h1 hc hr ih => intro _; exact .cptr b off vs hp h1 (fun j hj => L.const _ _ _ (hc j hj)) (fun j d hd => (hr j d hd).laterC L.const (pures_get hp j d hd))
  | slice b off vs hl hle hf he ha hc hr ih =>
    intro _
    exact .slice b off vs hl hle hf he ha (fun j hj => L.const _ _ _ (hc j hj)) (fun j d hd => (hr j d hd).laterC L.const (pures_get (pures_flat fun x hx => (elemsOk_mem he x hx).2.1) j d hd))
  | vsl hle hc ha => intro hu; exact .vsl hle hc fun h => let ⟨b, hb, e⟩ := ha h; ⟨b, L.β _ _ _ (by simpa [D.upto] using hu) hb, e⟩
  | fn vs us hv hu ra rb iha ihb =>
    intro h
    simp only [D.upto, Bool.and_eq_true] at h
    exact .fn vs us hv hu (fun j d hd => iha j d hd (uptos_get h.1 j d hd)) (fun j d hd => ihb j d hd (uptos_get h.2 j d hd))
  | yld h => intro hu; exact .yld (L.β _ _ _ (by simpa [D.upto] using hu) h)
  | nilf => intro _; exact .nilf
  | iface h ih => intro h; exact .iface (ih (by simpa [D.upto] using h))
  | nili => intro _; exact .nili
  | agg vs hl h1 hr ih => intro h; exact .agg vs hl h1 fun j d hd => ih j d hd (uptos_get (by simpa [D.upto] using h) j d hd)
  | tup vs hl hr ih => intro h; simp [D.upto] at h

/-! ### Rights -/
/-- the region behind a slice's elements, as somebody holds it -/
def Region (k : K) (b o : Nat) (a : Option Addr) (len cap s : Nat) : Prop :=
  ∃ f, a = some ⟨b, f, none⟩ ∧ o = f + len * s ∧ ∃ cs e, k.w.heap[b]? = some (.cells cs e (0, 0)) ∧ f + cap * s ≤ cs.size

/-- the room behind a slice is this holder's, or there is none -/
def HeldAt (k : K) (h : Hold) (a : Option Addr) (len cap s : Nat) : Prop :=
  (∃ b o, k.sp h = some (b, o) ∧ Region k b o a len cap s) ∨ (cap = len ∧ k.sp h = none)

def CellTk (k : K) (δ now : Nat) (live : Nat → Bool) : Value → D → Prop
  | .slice a len cap, .slice (.tok t) s _ => live t = true → HeldAt k (.tok δ t) a len cap s
  | .slice a len cap, .slice (.lent d i off st) s _ => st ≤ now ∧ (st = now → HeldAt k (.cell d i off) a len cap s)
  | _, .slice .own _ _ => False
  | _, _ => True

def OwnOk (k : K) (h : Hold) : Value → D → Prop
  | .slice a len cap, .slice .own s _ => HeldAt k h a len cap s
  | _, .slice (.tok _) _ _ | _, .slice (.lent ..) _ _ => False
  | _, _ => k.sp h = none

def LoopRel (P : Program) (pol : Pol) (k : K) (d : Nat) (l : Loop) (r : LoopRec) : Prop :=
  (match r.state with | .ready => l.state = .ready | .busy => l.state = .busy | .done => l.state = .done | .exhausted => l.state = .exhausted) ∧
  (match r.pending with | none => l.pending = none | some .ret => l.pending = some .ret | some (.exit id) => l.pending = some (.exit id)) ∧
  (∃ n f, trCode P pol f n l.assign = some r.assign ∧ trCode P pol f n l.body = some r.body ∧ l.tmps.size = n ∧ (P.funcs[l.fn]?).isSome = true) ∧
  l.params.toList = r.params ∧ (∀ p ∈ r.params, p < l.tmps.size) ∧
  (∀ t, Rep k (l.tmps.getD t undef) (r.σ t) ∧ (r.σ t).degr = r.σ t ∧ ((r.σ t).upto d = true ∨ r.σ t = .undef))

def ObjRel (P : Program) (pol : Pol) (k : K) (d i b : Nat) : Obj → Prop
  | .none => True
  | .cells ds => ∃ cs e fr, k.w.heap[b]? = some (.cells cs e fr) ∧ ds.length ≤ cs.size ∧ (∀ j, j < cs.size → ¬ (fr.1 ≤ j ∧ j < fr.2)) ∧
      ∀ j x, ds[j]? = some x → Rep k (cs.getD j undef) x ∧ OwnOk k (.cell d i j) (cs.getD j undef) x ∧ x.cells = [x] ∧ x.upto d = true
  | .loop r => ∃ l, k.w.heap[b]? = some (.loop l) ∧ LoopRel P pol k d l r

structure Good (k : K) : Prop where
  inj : ∀ d i d' i' b, k.β d i = some b → k.β d' i' = some b → d = d' ∧ i = i'
  lt : ∀ d i b, k.β d i = some b → b < k.w.heap.size
  splt : ∀ h b o, k.sp h = some (b, o) → b < k.w.heap.size
  spinj : ∀ h h' b o o', k.sp h = some (b, o) → k.sp h' = some (b, o') → h = h'
  disj : ∀ d i b h o, k.β d i = some b → k.sp h = some (b, o) → False
  cb : ∀ d i off r, k.sp (.cell d i off) = some r → ∃ b, k.β d i = some b

def StoreRel (P : Program) (pol : Pol) (k : K) (S : Store) : Prop := ∀ d i b, k.β d i = some b → ObjRel P pol k d i b (S d i)

/-- what executing at level δ, with writes to levels from low on, leaves -/
structure Ext (δ low : Nat) (k k' : K) : Prop where
  later : Later k k'
  size : k.w.heap.size ≤ k'.w.heap.size
  os : k'.w.os = k.w.os
  tape : k'.w.tape = k.w.tape
  output : k'.w.output = k.w.output
  other : ∀ b, b < k.w.heap.size → (∀ d i, k.β d i ≠ some b) → (∀ h o, k.sp h ≠ some (b, o)) → k'.w.heap[b]? = k.w.heap[b]?
  nobox : ∀ b, b < k.w.heap.size → (∀ d i, k.β d i ≠ some b) → (∀ h o, k.sp h ≠ some (b, o)) → (∀ d i, k'.β d i ≠ some b) ∧ (∀ h o, k'.sp h ≠ some (b, o))
  boxes : ∀ d i b, d < low → k.β d i = some b → k'.w.heap[b]? = k.w.heap[b]?
  cells : ∀ d i off, d < low → k'.sp (.cell d i off) = k.sp (.cell d i off)
  toks : ∀ d t, d < δ → k'.sp (.tok d t) = k.sp (.tok d t)
  lv : ∀ d i, d < δ → k'.β d i = k.β d i
  shape : ∀ (b : Nat) (cs : Array Value) (e : TypeId), k.w.heap[b]? = some (Go.Obj.cells cs e (0, 0)) → ∃ cs' : Array Value, k'.w.heap[b]? = some (Go.Obj.cells cs' e (0, 0)) ∧ cs'.size = cs.size

theorem Ext.refl (δ low : Nat) (k : K) : Ext δ low k k :=
  ⟨.refl k, Nat.le_refl _, rfl, rfl, rfl, fun _ _ _ _ => rfl, fun _ _ h h' => ⟨h, h'⟩, fun _ _ _ _ _ => rfl, fun _ _ _ _ => rfl, fun _ _ _ => rfl, fun _ _ _ => rfl, fun _ cs _ h => ⟨cs, h, rfl⟩⟩
theorem Ext.mono {δ low low' : Nat} {k k' : K} (h : Ext δ low k k') (hl : low' ≤ low) : Ext δ low' k k' :=
  { h with boxes := fun d i b hd => h.boxes d i b (by omega), cells := fun d i off hd => h.cells d i off (by omega) }
theorem Ext.trans {δ low : Nat} {a b c : K} (h : Ext δ low a b) (h' : Ext δ low b c) (hl : low ≤ δ) : Ext δ low a c where
  later := h.later.trans h'.later
  size := Nat.le_trans h.size h'.size
  os := h'.os.trans h.os
  tape := h'.tape.trans h.tape
  output := h'.output.trans h.output
  other := fun x hx h1 h2 => (h'.other x (Nat.lt_of_lt_of_le hx h.size) (h.nobox x hx h1 h2).1 (h.nobox x hx h1 h2).2).trans (h.other x hx h1 h2)
  nobox := fun x hx h1 h2 => h'.nobox x (Nat.lt_of_lt_of_le hx h.size) (h.nobox x hx h1 h2).1 (h.nobox x hx h1 h2).2
  boxes := fun d i x hd hb => (h'.boxes d i x hd ((h.lv d i (by omega)).trans hb)).trans (h.boxes d i x hd hb)
  cells := fun d i off hd => (h'.cells d i off hd).trans (h.cells d i off hd)
  toks := fun d t hd => (h'.toks d t hd).trans (h.toks d t hd)
  lv := fun d i hd => (h'.lv d i hd).trans (h.lv d i hd)
  shape := fun x cs e hx => let ⟨cs1, h1, e1⟩ := h.shape x cs e hx; let ⟨cs2, h2, e2⟩ := h'.shape x cs1 e h1; ⟨cs2, h2, e2.trans e1⟩

/-- What an operation j of a frame at level δ has done. -/
structure Chg (P : Program) (pol : Pol) (δ j : Nat) (st st' : St) (k k' : K) : Prop where
  ext : ∀ low, low ≤ δ → low ≤ st'.low → Ext δ low k k'
  low : st'.low ≤ st.low
  good : Good k'
  β : ∀ d i, ¬ (d = δ ∧ i = st.m + j) → k'.β d i = k.β d i
  store : ∀ d i b, k'.β d i = some b →
    (st'.S d i = st.S d i ∧ k.β d i = some b ∧ k'.w.heap[b]? = k.w.heap[b]? ∧ ∀ off, k'.sp (.cell d i off) = k.sp (.cell d i off)) ∨ ObjRel P pol k' d i b (st'.S d i)
  now : (st'.now = st.now ∧ (∀ d i off, ¬ (d = δ ∧ i = st.m + j) → k'.sp (.cell d i off) = k.sp (.cell d i off)) ∧ (∀ d i b, k.β d i = some b → k'.w.heap[b]? = k.w.heap[b]?) ∧ st'.low = st.low) ∨ st'.now = st.now + 1
  tok : ∀ t, t ≠ st.nt + j → st'.live t = true → st.live t = true ∧ k'.sp (.tok δ t) = k.sp (.tok δ t)
  dead : ∀ t, t ≠ st.nt + j → st'.live t = false → k.sp (.tok δ t) = none ∨ st.live t = true → k'.sp (.tok δ t) = none
  tokf : ∀ t, t ≠ st.nt + j → st.live t = false → k'.sp (.tok δ t) = k.sp (.tok δ t)
  other : ∀ h, (∀ t, h ≠ .tok δ t) → (∀ d i off, h ≠ .cell d i off) → k'.sp h = k.sp h
  lv : ∀ d i off, δ < d → k'.sp (.cell d i off) = k.sp (.cell d i off)
  tks : ∀ d t, d ≠ δ → k'.sp (.tok d t) = k.sp (.tok d t)
  m : st'.m = st.m
  nt : st'.nt = st.nt
  σ : st'.σ = st.σ
  pend : st'.pend = st.pend
  recd : st'.recd = st.recd
end Go.Mia
/- What a frame's slots and boxes say; one operation keeps it. -/
namespace Go.Mia
open Go

/-- the names in a slot are those of boxes and rights that were made -/
def NameOk (δ : Nat) (B T : Nat → Prop) : D → Prop
  | .slice (.tok u) _ _ => T u
  | .slice (.lent d i _ _) _ _ => d < δ ∨ (d = δ ∧ B i)
  | _ => True

theorem NameOk.mono {δ : Nat} {B T B' T' : Nat → Prop} {d : D} (h : NameOk δ B T d) (hm : ∀ i, B i → B' i) (hn : ∀ i, T i → T' i) : NameOk δ B' T' d := by
  unfold NameOk at *
  split <;> simp only at h
  · exact hn _ h
  · exact h.imp id fun ⟨e, hb⟩ => ⟨e, hm _ hb⟩
  · trivial

/-- one more -/
def More (B : Nat → Prop) (n : Nat) : Nat → Prop := fun i => B i ∨ i = n
/-- those below -/
def Below' (n : Nat) : Nat → Prop := fun i => i < n

/-- A frame whose boxes are those of B and whose rights are those of T. -/
structure FrRel (P : Program) (pol : Pol) (k : K) (δ : Nat) (B T : Nat → Prop) (st : St) (tmps : Array Value) : Prop where
  rep : ∀ t, Rep k (tmps.getD t undef) (st.σ t)
  tk : ∀ t, CellTk k δ st.now st.live (tmps.getD t undef) (st.σ t)
  names : ∀ t, NameOk δ B T (st.σ t)
  dead : ∀ t, st.live t = false → k.sp (.tok δ t) = none
  newt : ∀ t, ¬ T t → st.live t = false
  newm : ∀ i, ¬ B i → k.β δ i = none
  newc : ∀ i off, ¬ B i → k.sp (.cell δ i off) = none
  up : ∀ d i, δ < d → k.β d i = none
  upt : ∀ d t, δ < d → k.sp (.tok d t) = none
  upc : ∀ d i off, δ < d → k.sp (.cell d i off) = none
  good : Good k
  store : StoreRel P pol k st.S
  low : st.low ≤ δ

theorem Region.ext {δ low : Nat} {k k' : K} (E : Ext δ low k k') {b o : Nat} {a : Option Addr} {len cap s : Nat} (h : Region k b o a len cap s) : Region k' b o a len cap s := by
  obtain ⟨f, ha, ho, cs, e, hb, hc⟩ := h
  obtain ⟨cs', hb', hs⟩ := E.shape b cs e hb
  exact ⟨f, ha, ho, cs', e, hb', by omega⟩
theorem HeldAt.ext {δ low : Nat} {k k' : K} (E : Ext δ low k k') {h : Hold} (hs : k'.sp h = k.sp h) {a : Option Addr} {len cap s : Nat} (H : HeldAt k h a len cap s) : HeldAt k' h a len cap s := by
  rcases H with ⟨b, o, h1, h2⟩ | ⟨h1, h2⟩
  · exact .inl ⟨b, o, hs.trans h1, h2.ext E⟩
  · exact .inr ⟨h1, hs.trans h2⟩
theorem OwnOk.ext {δ low : Nat} {k k' : K} (E : Ext δ low k k') {h : Hold} (hs : k'.sp h = k.sp h) {v : Value} {d : D} (H : OwnOk k h v d) : OwnOk k' h v d := by
  unfold OwnOk at *
  split <;> simp_all
  · exact H.ext E hs
theorem LoopRel.ext {P : Program} {pol : Pol} {k k' : K} (L : Later k k') {d : Nat} {l : Loop} {r : LoopRec} (h : LoopRel P pol k d l r) : LoopRel P pol k' d l r := by
  obtain ⟨h1, h2, h3, h4, h5, h6⟩ := h
  exact ⟨h1, h2, h3, h4, h5, fun t => ⟨(h6 t).1.later L, (h6 t).2⟩⟩
theorem ObjRel.same {P : Program} {pol : Pol} {δ low : Nat} {k k' : K} (E : Ext δ low k k') {d i b : Nat} (hb : k'.w.heap[b]? = k.w.heap[b]?) (hs : ∀ off, k'.sp (.cell d i off) = k.sp (.cell d i off)) {o : Obj} (h : ObjRel P pol k d i b o) :
    ObjRel P pol k' d i b o := by
  cases o with
  | none => trivial
  | cells ds =>
    obtain ⟨cs, e, fr, h1, h2, h3, h4⟩ := h
    exact ⟨cs, e, fr, hb.trans h1, h2, h3, fun j x hx => ⟨(h4 j x hx).1.later E.later, (h4 j x hx).2.1.ext E (hs j), (h4 j x hx).2.2⟩⟩
  | loop r =>
    obtain ⟨l, h1, h2⟩ := h
    exact ⟨l, hb.trans h1, h2.ext E.later⟩

theorem getD_set (tmps : Array Value) (i t : Nat) (v : Value) (hi : i < tmps.size) : (tmps.setIfInBounds i v).getD t undef = if t = i then v else tmps.getD t undef := by
  by_cases h : t = i
  · subst h; simp [Array.getD_eq_getD_getElem?, Array.getElem?_setIfInBounds, hi]
  · have : i ≠ t := fun e => h e.symm
    simp [Array.getD_eq_getD_getElem?, Array.getElem?_setIfInBounds, this, h]

def putT (tmps : Array Value) (dst : Option Nat) (v : Value) : Array Value :=
  match dst with
  | some d => tmps.setIfInBounds d v
  | none => tmps
theorem putT_size (tmps : Array Value) (dst : Option Nat) (v : Value) : (putT tmps dst v).size = tmps.size := by cases dst <;> simp [putT]

theorem CellTk.chg {P : Program} {pol : Pol} {δ j : Nat} {st st' : St} {k k' : K} (C : Chg P pol δ j st st' k k') {v : Value} {d : D}
    {B T : Nat → Prop} (nB : ¬ B (st.m + j)) (nT : ¬ T (st.nt + j)) (hn : NameOk δ B T d) (h : CellTk k δ st.now st.live v d) : CellTk k' δ st'.now st'.live v d := by
  unfold CellTk at h ⊢
  split
  · rename_i a len cap t s xs
    simp only [NameOk] at hn
    simp only at h
    intro hl
    obtain ⟨hl', hs⟩ := C.tok t (fun e => nT (e ▸ hn)) hl
    exact (h hl').ext (C.ext 0 (Nat.zero_le _) (Nat.zero_le _)) hs
  · rename_i a len cap d i off s' s xs
    simp only [NameOk] at hn
    simp only at h
    rcases C.now with ⟨hn', hc, _⟩ | hn'
    · refine ⟨by omega, fun e => ?_⟩
      refine (h.2 (by omega)).ext (C.ext 0 (Nat.zero_le _) (Nat.zero_le _)) (hc d i off fun e => ?_)
      rcases hn with hn | hn
      · omega
      · exact nB (e.2 ▸ hn.2)
    · exact ⟨by omega, fun e => by omega⟩
  · simp at h
  · trivial

theorem FrRel.chg {P : Program} {pol : Pol} {δ j : Nat} {B T : Nat → Prop} {st st' : St} {k k' : K} {tmps : Array Value} (h : FrRel P pol k δ B T st tmps) (hB : ¬ B (st.m + j)) (hT : ¬ T (st.nt + j)) (C : Chg P pol δ j st st' k k')
    {v : Value} {d : D} (hr : Rep k' v d) (ht : CellTk k' δ st'.now st'.live v d) (hnm : NameOk δ (More B (st.m + j)) (More T (st.nt + j)) d)
    (hnt : st'.live (st.nt + j) = false → k'.sp (.tok δ (st.nt + j)) = none)
    {dst : Option Nat} (hd : ∀ x, dst = some x → x < tmps.size) : FrRel P pol k' δ (More B (st.m + j)) (More T (st.nt + j)) (putD st' dst d) (putT tmps dst v) := by
  have E := C.ext 0 (Nat.zero_le _) (Nat.zero_le _)
  have e1 : (putD st' dst d).now = st'.now := by cases dst <;> rfl
  have e2 : (putD st' dst d).live = st'.live := by cases dst <;> rfl
  have e5 : (putD st' dst d).S = st'.S := by cases dst <;> rfl
  have e6 : (putD st' dst d).low = st'.low := by cases dst <;> rfl
  have slots : ∀ t, ((putD st' dst d).σ t = st.σ t ∧ (putT tmps dst v).getD t undef = tmps.getD t undef) ∨ ((putD st' dst d).σ t = d ∧ (putT tmps dst v).getD t undef = v) := by
    intro t
    cases dst with
    | none => exact .inl ⟨by simp [putD, C.σ], rfl⟩
    | some x =>
      have hx := hd x rfl
      simp only [putD, putT, upd, getD_set _ _ _ _ hx]
      by_cases e : t = x
      · right; simp [e]
      · left; simp [e, C.σ]
  refine ⟨fun t => ?_, fun t => ?_, fun t => ?_, fun t ht' => ?_, fun t ht' => ?_, fun i hi => ?_, fun i off hi => ?_, fun d' i hd' => ?_, fun d' t hd' => ?_, fun d' i off hd' => ?_, C.good, ?_, ?_⟩
  · rcases slots t with ⟨a, b⟩ | ⟨a, b⟩ <;> rw [a, b]
    · exact (h.rep t).later E.later
    · exact hr
  · rw [e1, e2]
    rcases slots t with ⟨a, b⟩ | ⟨a, b⟩ <;> rw [a, b]
    · exact (h.tk t).chg C hB hT (h.names t)
    · exact ht
  · rcases slots t with ⟨a, b⟩ | ⟨a, b⟩ <;> rw [a]
    · exact (h.names t).mono (fun i hi => .inl hi) (fun i hi => .inl hi)
    · exact hnm
  · rw [e2] at ht'
    by_cases e : t = st.nt + j
    · subst e; exact hnt ht'
    · refine C.dead t e ht' ?_
      cases hl : st.live t with
      | true => exact .inr rfl
      | false => exact .inl (h.dead t hl)
  · rw [e2]
    have hne : t ≠ st.nt + j := fun e => ht' (.inr e)
    have hnT : ¬ T t := fun e => ht' (.inl e)
    cases hl : st'.live t with
    | false => rfl
    | true =>
      have := C.tok t hne hl
      have := h.newt t hnT
      simp_all
  · have hne : i ≠ st.m + j := fun e => hi (.inr e)
    rw [C.β δ i (by omega)]; exact h.newm i fun e => hi (.inl e)
  · have hne : i ≠ st.m + j := fun e => hi (.inr e)
    cases hs : k'.sp (.cell δ i off) with
    | none => rfl
    | some r =>
      obtain ⟨b, hb⟩ := C.good.cb δ i off r hs
      rw [C.β δ i (by omega), h.newm i fun e => hi (.inl e)] at hb; cases hb
  · rw [C.β d' i (by omega)]; exact h.up d' i hd'
  · rw [C.tks d' t (by omega)]; exact h.upt d' t hd'
  · rw [C.lv d' i off hd']; exact h.upc d' i off hd'
  · rw [e5]
    intro d' i b hb
    rcases C.store d' i b hb with ⟨a, b', c, s⟩ | a
    · rw [a]; exact (h.store d' i b b').same E c s
    · exact a
  · rw [e6]; have := C.low; have := h.low; omega
end Go.Mia
/- One operation of the code does what the reading says: those that only look at values. -/
namespace Go.Mia
open Go

theorem Chg.refl {P : Program} {pol : Pol} {δ j : Nat} {st : St} {k : K} (hg : Good k) : Chg P pol δ j st st k k where
  ext := fun low _ _ => Ext.refl δ low k
  low := Nat.le_refl _
  good := hg
  β := fun _ _ _ => rfl
  store := fun d i b hb => .inl ⟨rfl, hb, rfl, fun _ => rfl⟩
  now := .inl ⟨rfl, fun _ _ _ _ => rfl, fun _ _ _ _ => rfl, rfl⟩
  tok := fun t _ h => ⟨h, rfl⟩
  dead := fun t _ h h' => by
    rcases h' with h' | h'
    · exact h'
    · simp_all
  tokf := fun _ _ _ => rfl
  other := fun _ _ _ => rfl
  lv := fun _ _ _ _ => rfl
  tks := fun _ _ _ => rfl
  m := rfl
  nt := rfl
  σ := rfl
  pend := rfl
  recd := rfl

/-- What an operation finds. -/
structure Loc (P : Program) (pol : Pol) (k : K) (δ j : Nat) (st : St) (B T : Nat → Prop) : Prop where
  good : Good k
  store : StoreRel P pol k st.S
  fb : k.β δ (st.m + j) = none
  fc : ∀ off, k.sp (.cell δ (st.m + j) off) = none
  ft : k.sp (.tok δ (st.nt + j)) = none
  fl : st.live (st.nt + j) = false
  low : st.low ≤ δ
  has : ∀ d i b, k.β d i = some b → d < δ ∨ (d = δ ∧ B i)
  nB : ¬ B (st.m + j)
  nT : ¬ T (st.nt + j)

/-- what a slot, or a constant, says -/
structure Val (k : K) (δ : Nat) (st : St) (B T : Nat → Prop) (v : Value) (d : D) : Prop where
  rep : Rep k v d
  tk : CellTk k δ st.now st.live v d
  name : NameOk δ B T d

def Does (P : Program) (pol : Pol) (a : Act) (o : Oper) (δ j : Nat) (k : K) (st : St) (B T : Nat → Prop) (d : D) (st' : St) : Prop :=
  ∃ x v k', (execOp a.eval o).run P k.w = .ok x k'.w ∧ (x = .value v ∨ (x = .skip ∧ v = undef)) ∧ Chg P pol δ j st st' k k' ∧ Rep k' v d ∧
    CellTk k' δ st'.now st'.live v d ∧ NameOk δ (More B (st.m + j)) (More T (st.nt + j)) d ∧ (st'.live (st.nt + j) = false → k'.sp (.tok δ (st.nt + j)) = none)

theorem Does.quiet {P : Program} {pol : Pol} {a : Act} {o : Oper} {δ j : Nat} {k : K} {st : St} {B T : Nat → Prop} {d : D} (L : Loc P pol k δ j st B T) {v : Value}
    (hr : (execOp a.eval o).run P k.w = .ok (.value v) k.w) (hv : Val k δ st B T v d) : Does P pol a o δ j k st B T d st :=
  ⟨.value v, v, k, hr, .inl rfl, .refl L.good, hv.rep, hv.tk, hv.name.mono (fun _ => .inl) (fun _ => .inl), fun _ => L.ft⟩

/-- neither right nor name -/
theorem Val.plain {k : K} {δ : Nat} {st : St} {B T : Nat → Prop} {v : Value} {d : D} (h : Rep k v d) (hs : ∀ tk s xs, d = .slice tk s xs → tk = .full ∨ tk = .none) : Val k δ st B T v d := by
  refine ⟨h, ?_, ?_⟩
  · unfold CellTk
    split
    · rcases hs _ _ _ rfl with h | h <;> simp at h
    · rcases hs _ _ _ rfl with h | h <;> simp at h
    · rcases hs _ _ _ rfl with h | h <;> simp at h
    · trivial
  · unfold NameOk
    split
    · rcases hs _ _ _ rfl with h | h <;> simp at h
    · rcases hs _ _ _ rfl with h | h <;> simp at h
    · trivial

/-! ### Constants -/
structure LitOk (k : K) (v : Value) (d : D) : Prop where
  rep : Rep k v d
  one : d.cells = [d]
  val : d.isVal = true
  pure : d.pure = true
  tk : ∀ tk s xs, d = .slice tk s xs → tk = .full ∧ xs = []
  vone : v.oneCell' = true
  up : ∀ n, d.upto n = true

theorem lit1_ok {k : K} {s : Nat} {v : Value} {d : D} (h : lit1 s v = some d) : LitOk k v d := by
  unfold lit1 at h
  split at h <;> simp at h <;> subst h
  · exact ⟨.bool _, rfl, rfl, rfl, by simp, rfl, fun _ => rfl⟩
  · exact ⟨.int _ _, rfl, rfl, rfl, by simp, rfl, fun _ => rfl⟩
  · rename_i b
    exact ⟨by simpa using Rep.str b.data.toList, rfl, rfl, rfl, by simp, rfl, fun _ => rfl⟩
  · exact ⟨.nilp, rfl, rfl, rfl, by simp, rfl, fun _ => rfl⟩
  · exact ⟨.slice 0 0 (fun _ => undef) rfl (Nat.le_refl _) (fun _ => rfl) rfl (by simp) (by simp) (by simp), rfl, rfl, rfl, by rintro tk s xs h; simp at h; simp [h], rfl, fun _ => rfl⟩
  · exact ⟨.nilf, rfl, rfl, rfl, by simp, rfl, fun _ => rfl⟩
  · exact ⟨.nili, rfl, rfl, rfl, by simp, rfl, fun _ => rfl⟩

theorem lits_ok {k : K} : ∀ {ss : List Nat} {vs : List Value} {ds : List D}, lits ss vs = some ds →
    vs.length = ds.length ∧ ∀ (j : Nat) (d : D), ds[j]? = some d → LitOk k (vs.getD j undef) d
  | [], [], ds, h => by simp [lits] at h; subst h; simp
  | s :: ss, v :: vs, ds, h => by
    simp only [lits] at h
    split at h
    · rename_i d ds' h1 h2
      simp at h; subst h
      obtain ⟨hl, hs⟩ := lits_ok (k := k) h2
      refine ⟨by simp [hl], fun j d' hd => ?_⟩
      cases j with
      | zero => simp at hd; subst hd; simpa using lit1_ok h1
      | succ j => simpa using hs j d' (by simpa using hd)
    · simp at h
  | [], _ :: _, _, h => by simp [lits] at h
  | _ :: _, [], _, h => by simp [lits] at h

theorem constD_ok {P : Program} {t : TypeId} {v : Value} {d : D} (h : constD P t v = some d) (k : K) : Rep k v d ∧ (∀ tk s xs, d = .slice tk s xs → tk = .full ∨ tk = .none) ∧ (∀ n, d.upto n = true) ∧ d.isVal = true := by
  unfold constD at h
  split at h
  · rename_i vs
    split at h
    · rename_i ss hs
      simp only [Option.map_eq_some_iff] at h
      obtain ⟨ds, h1, rfl⟩ := h
      obtain ⟨hl, hd⟩ := lits_ok (k := k) h1
      refine ⟨?_, by simp, ?_, rfl⟩
      · have := Rep.agg (k := k) (cs := ds) vs.toList (by simpa using hl) (fun d hd' => ?_) (fun j d hd' => (hd j d hd').rep)
        · simpa using this
        · obtain ⟨j, hj⟩ := List.getElem?_of_mem hd'
          exact ⟨(hd j d hj).one, (hd j d hj).val⟩
      · intro n
        simp only [D.upto]
        have : ∀ d ∈ ds, d.upto n = true := by
          intro d hd'
          obtain ⟨j, hj⟩ := List.getElem?_of_mem hd'
          exact (hd j d hj).up n
        clear h1 hl hd
        induction ds with
        | nil => rfl
        | cons c cs ih => simp only [D.uptos, Bool.and_eq_true]; exact ⟨this c (by simp), ih fun d hd => this d (by simp [hd])⟩
    · simp at h
  · have := lit1_ok (k := k) h
    refine ⟨this.rep, fun tk s xs e => .inl (this.tk tk s xs e).1, ?_, this.val⟩
    exact this.up
end Go.Mia
namespace Go.Mia
open Go

theorem Rep.inv_bool {k : K} {v : Value} {b : Bool} (h : Rep k v (.bool b)) : v = .bool b := by cases h; rfl
theorem Rep.inv_int {k : K} {v : Value} {kd : IntKind} {n : Int} (h : Rep k v (.int kd n)) : v = .int kd n := by cases h; rfl
theorem Rep.inv_str {k : K} {v : Value} {l : List UInt8} (h : Rep k v (.str l)) : v = .string ⟨l.toArray⟩ := by cases h; rfl
theorem Rep.inv_nilp {k : K} {v : Value} (h : Rep k v .nilp) : v = .pointer none := by cases h; rfl
theorem Rep.inv_nilf {k : K} {v : Value} (h : Rep k v .nilf) : v = .nilFunc := by cases h; rfl
theorem Rep.inv_nili {k : K} {v : Value} (h : Rep k v .nili) : v = .nilIface := by cases h; rfl
theorem Rep.inv_ptr {k : K} {v : Value} {d i off : Nat} (h : Rep k v (.ptr d i off)) : ∃ b, k.β d i = some b ∧ v = .pointer (some ⟨b, off, none⟩) := by
  cases h with | ptr h => exact ⟨_, h, rfl⟩
theorem Rep.inv_cptr {k : K} {v : Value} {cs : List D} (h : Rep k v (.cptr cs)) : ∃ (b off : Nat) (vs : Nat → Value), v = .pointer (some ⟨b, off, none⟩) ∧ D.pures cs = true ∧ (∀ d ∈ cs, d.cells = [d]) ∧
    (∀ j, j < cs.length → k.Const b (off + j) (vs j)) ∧ ∀ (j : Nat) (d : D), cs[j]? = some d → Rep k (vs j) d := by
  cases h with | cptr b off vs hp h1 hc hr => exact ⟨b, off, vs, rfl, hp, h1, hc, hr⟩
theorem Rep.inv_slice {k : K} {v : Value} {tk : Tk} {s : Nat} {xs : List D} (h : Rep k v (.slice tk s xs)) : ∃ (a : Option Addr) (cap b off : Nat) (vs : Nat → Value), v = .slice a xs.length cap ∧ xs.length ≤ cap ∧ (tk = .full → cap = xs.length) ∧
    elemsOk s xs = true ∧ (0 < xs.length → a = some ⟨b, off, none⟩) ∧ (∀ j, j < (xs.flatMap D.cells).length → k.Const b (off + j) (vs j)) ∧ ∀ (j : Nat) (d : D), (xs.flatMap D.cells)[j]? = some d → Rep k (vs j) d := by
  cases h with | slice b off vs hl hle hf he ha hc hr => subst hl; exact ⟨_, _, b, off, vs, rfl, hle, hf, he, ha, hc, hr⟩
theorem Rep.inv_vsl {k : K} {v : Value} {d i off len s c : Nat} (h : Rep k v (.vsl d i off len s c)) : ∃ a cap, v = .slice a len cap ∧ len ≤ c ∧ c ≤ cap ∧ (0 < c → ∃ b, k.β d i = some b ∧ a = some ⟨b, off, none⟩) := by
  cases h with | vsl hle hc ha => exact ⟨_, _, rfl, hle, hc, ha⟩
theorem Rep.inv_fn {k : K} {v : Value} {f : FuncId} {as bs : List D} (h : Rep k v (.fn f as bs)) : ∃ vs us : List Value, v = .func (.func f) vs.toArray us.toArray ∧ Reps k vs as ∧ Reps k us bs := by
  cases h with | fn vs us hv hu ra rb => exact ⟨vs, us, rfl, ⟨hv, ra⟩, ⟨hu, rb⟩⟩
theorem Rep.inv_yld {k : K} {v : Value} {d i : Nat} (h : Rep k v (.yld d i)) : ∃ b, k.β d i = some b ∧ v = .func (.yield b) #[] #[] := by
  cases h with | yld h => exact ⟨_, h, rfl⟩
theorem Rep.inv_iface {k : K} {v : Value} {t : TypeId} {d : D} (h : Rep k v (.iface t d)) : ∃ u, v = .iface t u ∧ Rep k u d := by
  cases h with | iface h => exact ⟨_, rfl, h⟩
theorem Rep.inv_agg {k : K} {v : Value} {cs : List D} (h : Rep k v (.agg cs)) : ∃ vs : List Value, v = .agg vs.toArray ∧ Reps k vs cs ∧ ∀ d ∈ cs, d.cells = [d] ∧ d.isVal = true := by
  cases h with | agg vs hl h1 hr => exact ⟨vs, rfl, ⟨hl, hr⟩, h1⟩
theorem Rep.inv_tup {k : K} {v : Value} {ds : List D} (h : Rep k v (.tup ds)) : ∃ vs : List Value, v = .tuple vs.toArray ∧ Reps k vs ds := by
  cases h with | tup vs hl hr => exact ⟨vs, rfl, ⟨hl, hr⟩⟩

theorem beqD {α : Type} [BEq α] [LawfulBEq α] [DecidableEq α] (a b : α) : (a == b) = decide (a = b) := by
  by_cases h : a = b <;> simp [h]

section
variable {P : Program} {pol : Pol} {k : K} {δ j : Nat} {st : St} {B T : Nat → Prop} {a : Act}

theorem opnd_val {t : TypeId} {x : Operand} {y : Opnd} (h : opnd P t x = some y) (hs : ∀ s ∈ y.slots, Val k δ st B T (a.tmps.getD s undef) (st.σ s)) : Val k δ st B T (a.eval x) (ev st.σ y) := by
  unfold opnd at h
  split at h
  · simp at h; subst h
    simpa [Act.eval, ev] using hs _ (by simp [Opnd.slots])
  · simp only [Option.map_eq_some_iff] at h
    obtain ⟨d, hd, rfl⟩ := h
    obtain ⟨h1, h2, _⟩ := constD_ok hd k
    exact .plain h1 h2
  · simp at h; subst h
    refine .plain ?_ (by simp [ev])
    exact Rep.fn (k := k) [] [] rfl rfl (by simp) (by simp)
  · simp at h

theorem opnds_len : ∀ {ts : List TypeId} {xs : List Operand} {ys : List Opnd}, opnds P ts xs = some ys → ys.length = xs.length
  | _, [], ys, h => by simp [opnds] at h; subst h; rfl
  | [], x :: xs, ys, h => by
    simp only [opnds] at h; split at h
    · rename_i y ys' h1 h2; simp at h; subst h; simp [opnds_len h2]
    · simp at h
  | t :: ts, x :: xs, ys, h => by
    simp only [opnds] at h; split at h
    · rename_i y ys' h1 h2; simp at h; subst h; simp [opnds_len h2]
    · simp at h

theorem opnds_val : ∀ {ts : List TypeId} {xs : List Operand} {ys : List Opnd}, opnds P ts xs = some ys → (∀ s ∈ ys.flatMap Opnd.slots, Val k δ st B T (a.tmps.getD s undef) (st.σ s)) →
    ∀ (i : Nat) (d : D), (evs st.σ ys)[i]? = some d → Val k δ st B T ((xs.map a.eval).getD i undef) d
  | _, [], ys, h, hs, i, d, hd => by simp [opnds] at h; subst h; simp [evs] at hd
  | [], x :: xs, ys, h, hs, i, d, hd => by
    simp only [opnds] at h; split at h
    · rename_i y ys' h1 h2; simp at h; subst h
      cases i with
      | zero => simp [evs] at hd; subst hd; simpa using opnd_val h1 fun s hx => hs s (by simp [hx])
      | succ i => simpa using opnds_val h2 (fun s hx => hs s (by simp only [List.flatMap_cons, List.mem_append]; exact .inr hx)) i d (by simpa [evs] using hd)
    · simp at h
  | t :: ts, x :: xs, ys, h, hs, i, d, hd => by
    simp only [opnds] at h; split at h
    · rename_i y ys' h1 h2; simp at h; subst h
      cases i with
      | zero => simp [evs] at hd; subst hd; simpa using opnd_val h1 fun s hx => hs s (by simp [hx])
      | succ i => simpa using opnds_val h2 (fun s hx => hs s (by simp only [List.flatMap_cons, List.mem_append]; exact .inr hx)) i d (by simpa [evs] using hd)
    · simp at h
theorem evs_len {σ : Nat → D} : ∀ {ys : List Opnd}, (evs σ ys).length = ys.length
  | [] => rfl
  | y :: ys => by simp [evs, evs_len]

variable {o : Oper} (L : Loc P pol k δ j st B T)
include L

theorem does_mv {x : Operand} {y : Opnd} {t : TypeId} (ho : o.op = .move x ∨ o.op = .assign x) (hx : opnd P t x = some y)
    (hs : ∀ s ∈ (IOp.mv y).slots, Val k δ st B T (a.tmps.getD s undef) (st.σ s)) : Does P pol a o δ j k st B T (ev st.σ y) st := by
  refine .quiet L (v := a.eval x) ?_ (opnd_val hx hs)
  rcases ho with ho | ho <;> simp [execOp, ho]

theorem does_pick {c x y : Operand} {c' x' y' : Opnd} {t t' t'' : TypeId} (ho : o.op = .pick c x y) (hc : opnd P t c = some c') (hx : opnd P t' x = some x') (hy : opnd P t'' y = some y')
    (hs : ∀ s ∈ (IOp.pick c' x' y').slots, Val k δ st B T (a.tmps.getD s undef) (st.σ s)) {d : D} (he : pickD (ev st.σ c') (ev st.σ x') (ev st.σ y') = some d) :
    Does P pol a o δ j k st B T d st := by
  have vc := opnd_val (a := a) hc fun s h => hs s (by simp [IOp.slots, h])
  have vx := opnd_val (a := a) hx fun s h => hs s (by simp [IOp.slots, h])
  have vy := opnd_val (a := a) hy fun s h => hs s (by simp [IOp.slots, h])
  unfold pickD at he
  split at he
  · rename_i h
    simp at he; subst he
    have hv := Rep.inv_bool (h ▸ vc.rep)
    exact .quiet L (v := a.eval x) (by simp [execOp, ho, hv, asBool]) vx
  · rename_i h
    simp at he; subst he
    have hv := Rep.inv_bool (h ▸ vc.rep)
    exact .quiet L (v := a.eval y) (by simp [execOp, ho, hv, asBool]) vy
  · simp at he

omit L in
theorem binInt_run {op : BinOp} {kd : IntKind} {x y : Int} {d : D} (h : binInt op kd x y = some d) (h1 : op ≠ .shl) (h2 : op ≠ .shr) (t : TypeId) (w : World) :
    ∃ v, (binOp op t (.int kd x) (.int kd y)).run P w = .ok v w ∧ Rep k v d ∧ ∀ tk s xs, d ≠ .slice tk s xs := by
  cases op with
  | add => simp [binInt] at h; subst h; exact ⟨.int kd _, by simp [binOp, Op.intArith], .int _ _, by simp⟩
  | sub => simp [binInt] at h; subst h; exact ⟨.int kd _, by simp [binOp, Op.intArith], .int _ _, by simp⟩
  | mul => simp [binInt] at h; subst h; exact ⟨.int kd _, by simp [binOp, Op.intArith], .int _ _, by simp⟩
  | quo => simp only [binInt] at h; split at h <;> simp at h; subst h; rename_i hy; exact ⟨.int kd _, by simp [binOp, Op.intDiv, hy], .int _ _, by simp⟩
  | rem => simp only [binInt] at h; split at h <;> simp at h; subst h; rename_i hy; exact ⟨.int kd _, by simp [binOp, Op.intDiv, hy], .int _ _, by simp⟩
  | and => simp [binInt] at h; subst h; exact ⟨.int kd _, by simp [binOp, Op.intBits, intBits], .int _ _, by simp⟩
  | or => simp [binInt] at h; subst h; exact ⟨.int kd _, by simp [binOp, Op.intBits, intBits], .int _ _, by simp⟩
  | xor => simp [binInt] at h; subst h; exact ⟨.int kd _, by simp [binOp, Op.intBits, intBits], .int _ _, by simp⟩
  | andNot => simp [binInt] at h; subst h; exact ⟨.int kd _, by simp [binOp, Op.intBits, intBits], .int _ _, by simp⟩
  | shl => contradiction
  | shr => contradiction
  | eql => simp [binInt] at h; subst h; exact ⟨.bool _, by simp [binOp, Op.intCmp, beqD], .bool _, by simp⟩
  | neq => simp [binInt] at h; subst h; exact ⟨.bool _, by simp [binOp, Op.intCmp, bne, beqD], .bool _, by simp⟩
  | lss => simp [binInt] at h; subst h; exact ⟨.bool _, by simp [binOp, Op.intCmp], .bool _, by simp⟩
  | leq => simp [binInt] at h; subst h; exact ⟨.bool _, by simp [binOp, Op.intCmp], .bool _, by simp⟩
  | gtr => simp [binInt] at h; subst h; exact ⟨.bool _, by simp [binOp, Op.intCmp], .bool _, by simp⟩
  | geq => simp [binInt] at h; subst h; exact ⟨.bool _, by simp [binOp, Op.intCmp], .bool _, by simp⟩

omit L in
theorem binStr_run {op : BinOp} {l1 l2 : List UInt8} {d : D} (h : binStr op l1 l2 = some d) (t : TypeId) (w : World) :
    ∃ v, (binOp op t (.string ⟨l1.toArray⟩) (.string ⟨l2.toArray⟩)).run P w = .ok v w ∧ Rep k v d ∧ ∀ tk s xs, d ≠ .slice tk s xs := by
  cases op with
  | add =>
    simp only [binStr] at h
    split at h <;> simp at h
    subst h; rename_i hb
    refine ⟨.string ⟨(l1 ++ l2).toArray⟩, ?_, .str _, by simp⟩
    have hsz : ¬ (((ByteArray.mk l1.toArray).size + (ByteArray.mk l2.toArray).size : Nat) : Int) > IntKind.i64.max := by
      simp only [ByteArray.size, List.size_toArray]
      have : IntKind.i64.max = 9223372036854775807 := by decide
      omega
    simp only [binOp, Op.stringOp, if_neg hsz, Sem.run_pure]
    congr 2
  | eql => simp [binStr] at h; subst h; exact ⟨.bool _, by simp [binOp, Op.stringOp, beqD], .bool _, by simp⟩
  | neq => simp [binStr] at h; subst h; exact ⟨.bool _, by simp [binOp, Op.stringOp, beqD], .bool _, by simp⟩
  | lss => simp [binStr] at h; subst h; exact ⟨.bool _, by simp [binOp, Op.stringOp, bytesLess], .bool _, by simp⟩
  | leq => simp [binStr] at h; subst h; exact ⟨.bool _, by simp [binOp, Op.stringOp, bytesLess, beqD], .bool _, by simp⟩
  | gtr => simp [binStr] at h; subst h; exact ⟨.bool _, by simp [binOp, Op.stringOp, bytesLess, beqD], .bool _, by simp⟩
  | geq => simp [binStr] at h; subst h; exact ⟨.bool _, by simp [binOp, Op.stringOp, bytesLess], .bool _, by simp⟩
  | _ => simp [binStr] at h

theorem does_bin {op : BinOp} {t u : TypeId} {x y : Operand} {x' y' : Opnd} {tx ty : TypeId} (ho : o.op = .binOp op t x y u) (hx : opnd P tx x = some x') (hy : opnd P ty y = some y')
    (h1 : op ≠ .eql) (h2 : op ≠ .neq)
    (hs : ∀ s ∈ (IOp.bin op x' y').slots, Val k δ st B T (a.tmps.getD s undef) (st.σ s)) {d : D} (he : binD op (ev st.σ x') (ev st.σ y') = some d) :
    Does P pol a o δ j k st B T d st := by
  have vx := opnd_val (a := a) hx fun s h => hs s (by simp [IOp.slots, h])
  have vy := opnd_val (a := a) hy fun s h => hs s (by simp [IOp.slots, h])
  have hg : (eqGuard op t x y (a.eval x) (a.eval y)).run P k.w = .ok () k.w := by
    cases op <;> simp_all [eqGuard]
  unfold binD at he
  split at he
  · rename_i kx nx ky ny e1 e2
    have r1 := Rep.inv_int (e1 ▸ vx.rep)
    have r2 := Rep.inv_int (e2 ▸ vy.rep)
    have key : ∃ v, (binOp op t (.int kx nx) (.int ky ny)).run P k.w = .ok v k.w ∧ Rep k v d ∧ ∀ tk s xs, d ≠ .slice tk s xs := by
      split at he
      · unfold shInt at he
        split at he
        · simp at he
        · rename_i hlt; simp at he; subst he
          exact ⟨.int kx _, by simp [binOp, Op.shift, hlt], .int _ _, by simp⟩
      · unfold shInt at he
        split at he
        · simp at he
        · rename_i hlt; simp at he; subst he
          exact ⟨.int kx _, by simp [binOp, Op.shift, hlt], .int _ _, by simp⟩
      · rename_i n1 n2
        split at he
        · rename_i hk; subst hk
          exact binInt_run he (by simpa using n1) (by simpa using n2) t k.w
        · simp at he
    obtain ⟨v, hr, hv, hn⟩ := key
    rw [r1, r2] at hg
    exact .quiet L (v := v) (by simp [execOp, ho, r1, r2, hg, hr]) (.plain hv fun tk s xs e => absurd e (hn tk s xs))
  · rename_i l1 l2 e1 e2
    have r1 := Rep.inv_str (e1 ▸ vx.rep)
    have r2 := Rep.inv_str (e2 ▸ vy.rep)
    obtain ⟨v, hr, hv, hn⟩ := binStr_run (P := P) (k := k) he t k.w
    rw [r1, r2] at hg
    exact .quiet L (v := v) (by simp [execOp, ho, r1, r2, hg, hr]) (.plain hv fun tk s xs e => absurd e (hn tk s xs))
  · simp at he
end
end Go.Mia
namespace Go.Mia
open Go

section
variable {P : Program} {pol : Pol} {k : K} {δ j : Nat} {st : St} {B T : Nat → Prop} {a : Act} {o : Oper} (L : Loc P pol k δ j st B T)
include L

theorem does_un {op : UnOp} {t tx : TypeId} {x : Operand} {x' : Opnd} (ho : o.op = .unOp op t x) (hx : opnd P tx x = some x')
    (hs : ∀ s ∈ (IOp.un op x').slots, Val k δ st B T (a.tmps.getD s undef) (st.σ s)) {d : D} (he : unD op (ev st.σ x') = some d) :
    Does P pol a o δ j k st B T d st := by
  have vx := opnd_val (a := a) hx fun s h => hs s (by simp [IOp.slots, h])
  unfold unD at he
  split at he
  · rename_i kd n e
    have r := Rep.inv_int (e ▸ vx.rep)
    split at he <;> simp at he <;> subst he
    · exact .quiet L (v := .int kd _) (by simp [execOp, ho, r, Op.unary, Op.intArith]) (.plain (.int _ _) (by simp))
    · exact .quiet L (v := .int kd _) (by simp [execOp, ho, r, Op.unary, Op.intBits, intBits]) (.plain (.int _ _) (by simp))
  · rename_i b e
    have r := Rep.inv_bool (e ▸ vx.rep)
    split at he <;> simp at he
    subst he
    exact .quiet L (v := .bool _) (by simp [execOp, ho, r, Op.unary]) (.plain (.bool _) (by simp))
  · simp at he

theorem does_toInt {src dst tx : TypeId} {kd ks : IntKind} {x : Operand} {x' : Opnd} (ho : o.op = .convert src dst x) (hsrc : P.underlying src = some (.int ks)) (hdst : P.underlying dst = some (.int kd)) (hx : opnd P tx x = some x')
    (hs : ∀ s ∈ (IOp.toInt kd x').slots, Val k δ st B T (a.tmps.getD s undef) (st.σ s)) {kn : IntKind} {n : Int} (he : ev st.σ x' = .int kn n) :
    Does P pol a o δ j k st B T (.int kd (kd.wrap n)) st := by
  have vx := opnd_val (a := a) hx fun s h => hs s (by simp [IOp.slots, h])
  have r := Rep.inv_int (he ▸ vx.rep)
  exact .quiet L (v := .int kd _) (by simp [execOp, ho, r, convert, run_underlying hsrc, run_underlying hdst, Conv.intToInt]) (.plain (.int _ _) (by simp))

theorem does_same {src dst tx : TypeId} {x : Operand} {x' : Opnd} (ho : o.op = .convert src dst x) (hsrc : P.underlying src = some .string) (hdst : P.underlying dst = some .string) (hx : opnd P tx x = some x')
    (hs : ∀ s ∈ (IOp.same x').slots, Val k δ st B T (a.tmps.getD s undef) (st.σ s)) {l : List UInt8} (he : ev st.σ x' = .str l) :
    Does P pol a o δ j k st B T (.str l) st := by
  have vx := opnd_val (a := a) hx fun s h => hs s (by simp [IOp.slots, h])
  have r := Rep.inv_str (he ▸ vx.rep)
  exact .quiet L (v := .string _) (by simp [execOp, ho, r, convert, run_underlying hsrc, run_underlying hdst]) (.plain (.str _) (by simp))

theorem does_nilck {x : Operand} {x' : Opnd} {tx : TypeId} (ho : o.op = .nilCheck x) (hx : opnd P tx x = some x')
    (hs : ∀ s ∈ (IOp.nilck x').slots, Val k δ st B T (a.tmps.getD s undef) (st.σ s)) {d : D} (he : nilckD (ev st.σ x') = some d) :
    Does P pol a o δ j k st B T d st := by
  have vx := opnd_val (a := a) hx fun s h => hs s (by simp [IOp.slots, h])
  have hd : d = ev st.σ x' := by
    unfold nilckD at he; split at he <;> simp at he <;> simp_all
  subst hd
  refine .quiet L (v := a.eval x) ?_ vx
  unfold nilckD at he
  split at he <;> simp at he
  · rename_i e; obtain ⟨b, _, r⟩ := Rep.inv_ptr (e ▸ vx.rep); simp [execOp, ho, r]
  · rename_i e; obtain ⟨b, off, vs, r, _, _⟩ := Rep.inv_cptr (e ▸ vx.rep); simp [execOp, ho, r]
  · rename_i e; obtain ⟨vs, us, r, _⟩ := Rep.inv_fn (e ▸ vx.rep); simp [execOp, ho, r]

theorem does_ext {x : Operand} {x' : Opnd} {i : Nat} {tx : TypeId} (ho : o.op = .extract x i) (hx : opnd P tx x = some x')
    (hs : ∀ s ∈ (IOp.ext x' i).slots, Val k δ st B T (a.tmps.getD s undef) (st.σ s)) {d : D} (he : extD i (ev st.σ x') = some d) :
    Does P pol a o δ j k st B T d st := by
  have vx := opnd_val (a := a) hx fun s h => hs s (by simpa [IOp.slots] using h)
  unfold extD at he
  split at he
  · rename_i ds e
    obtain ⟨vs, r, hr⟩ := Rep.inv_tup (e ▸ vx.rep)
    simp only [Option.map_eq_some_iff] at he
    obtain ⟨d0, he, rfl⟩ := he
    have hi : i < ds.length := by
      rcases Nat.lt_or_ge i ds.length with h | h
      · exact h
      · rw [List.getElem?_eq_none h] at he; cases he
    have hv : vs[i]? = some (vs.getD i undef) := by
      rw [List.getD_eq_getElem?_getD, List.getElem?_eq_getElem (show i < vs.length by rw [hr.1]; exact hi)]; rfl
    refine .quiet L (v := vs.getD i undef) ?_ (.plain (hr.2 i d0 he).degr (degr_tk d0))
    have : (vs.toArray)[i]? = some (vs.getD i undef) := by rw [List.getElem?_toArray]; exact hv
    simp only [execOp, ho, r, Instr.extract, this, Sem.run_bind, Sem.run_pure, Result.andThen_ok]
  · simp at he

theorem does_len {t tx : TypeId} {ty : TypeId} {lk : LenK} {x : Operand} {x' : Opnd} {ats : Array TypeId} {ts : List TypeId} (hats : ats.toList = t :: ts) (ho : o.op = .call { callee := .builtin .len, args := #[x], argTypes := ats })
    (hu : match lk with | .str => P.underlying t = some .string | .slice => ∃ e, P.underlying t = some (.slice e)) (hx : opnd P tx x = some x')
    (hs : ∀ s ∈ (IOp.len lk x').slots, Val k δ st B T (a.tmps.getD s undef) (st.σ s)) {n : Nat} (he : lenD lk (ev st.σ x') = some n) :
    Does P pol a o δ j k st B T (.int .i64 (n : Int)) st := by
  have hat : ats[0]? = some t := by rw [← Array.getElem?_toList, hats]; rfl
  have vx := opnd_val (a := a) hx fun s h => hs s (by simpa [IOp.slots] using h)
  refine .quiet L (v := .int .i64 (n : Int)) ?_ (.plain (.int _ _) (by simp))
  unfold lenD at he
  split at he <;> simp at he
  · subst he; rename_i e
    obtain ⟨el, hu⟩ := hu
    obtain ⟨ad, cap, b, off, vs, r, _⟩ := Rep.inv_slice (e ▸ vx.rep)
    simp [execOp, ho, resolve, invoke, builtin, Builtin.len_, hat, run_underlying hu, r, goInt]
  · subst he; rename_i e
    obtain ⟨el, hu⟩ := hu
    obtain ⟨ad, cap, r, _⟩ := Rep.inv_vsl (e ▸ vx.rep)
    simp [execOp, ho, resolve, invoke, builtin, Builtin.len_, hat, run_underlying hu, r, goInt]
  · subst he; rename_i e
    have r := Rep.inv_str (e ▸ vx.rep)
    have hz : (ByteArray.mk (‹List UInt8›).toArray).size = (‹List UInt8›).length := by simp only [ByteArray.size, List.size_toArray]
    simp [execOp, ho, resolve, invoke, builtin, Builtin.len_, hat, run_underlying hu, r, goInt, hz]

omit L in
theorem Reps.degr1 {vs : List Value} {ds : List D} (h : Reps k vs ds) : Reps k vs (ds.map D.degr1) := by
  refine ⟨by simpa using h.1, fun j d hd => ?_⟩
  simp only [List.getElem?_map, Option.map_eq_some_iff] at hd
  obtain ⟨c, hc, rfl⟩ := hd
  exact (h.2 j c hc).degr1
omit L in
theorem Reps.degr {vs : List Value} {ds : List D} (h : Reps k vs ds) : Reps k vs (ds.map D.degr) := by
  refine ⟨by simpa using h.1, fun j d hd => ?_⟩
  simp only [List.getElem?_map, Option.map_eq_some_iff] at hd
  obtain ⟨c, hc, rfl⟩ := hd
  exact (h.2 j c hc).degr
omit L in
theorem opnds_reps {ts : List TypeId} {xs : List Operand} {ys : List Opnd} (h : opnds P ts xs = some ys) (hs : ∀ s ∈ ys.flatMap Opnd.slots, Val k δ st B T (a.tmps.getD s undef) (st.σ s)) :
    Reps k (xs.map a.eval) (evs st.σ ys) :=
  ⟨by simp [evs_len, opnds_len h], fun i d hd => (opnds_val h hs i d hd).rep⟩

theorem does_mkF {f : FuncId} {first cap : Array Operand} {as bs : List Opnd} (ho : o.op = .makeFunc (.func f) first cap) (ha : opnds P [] first.toList = some as) (hb : opnds P [] cap.toList = some bs)
    (hs : ∀ s ∈ (IOp.mkF f as bs).slots, Val k δ st B T (a.tmps.getD s undef) (st.σ s)) :
    Does P pol a o δ j k st B T (.fn f ((evs st.σ as).map D.degr) ((evs st.σ bs).map D.degr)) st := by
  have r1 := Reps.degr (opnds_reps (a := a) ha fun s h => hs s (by simp only [IOp.slots, List.mem_append]; exact .inl h))
  have r2 := Reps.degr (opnds_reps (a := a) hb fun s h => hs s (by simp only [IOp.slots, List.mem_append]; exact .inr h))
  refine .quiet L (v := .func (.func f) (first.toList.map a.eval).toArray (cap.toList.map a.eval).toArray) ?_ (.plain (.fn _ _ r1.1 r2.1 r1.2 r2.2) (by simp))
  simp [execOp, ho, Instr.makeFunc]
  exact ⟨by apply Array.ext'; simp, by apply Array.ext'; simp⟩
end
end Go.Mia
namespace Go.Mia
open Go

theorem run_size {P : Program} {t : TypeId} {s : Nat} (h : sizeT P t = some s) (w : World) : (sizeOf t).run P w = .ok s w := by
  simp only [sizeT, Option.map_eq_some_iff] at h
  obtain ⟨i, hi, rfl⟩ := h
  simp [sizeOf, typeInfo, hi]
theorem run_isAgg {P : Program} {t : TypeId} {b : Bool} (h : isAggT P t = some b) (w : World) : (isAgg t).run P w = .ok b w := by
  unfold isAggT at h
  split at h <;> simp at h <;> subst h
  · simp [isAgg, run_underlying ‹_›]
  · simp [isAgg, run_underlying ‹_›]
  · rename_i d h1 h2 h3
    simp only [isAgg, Sem.run_bind, run_underlying h3, Result.andThen_ok]
    cases d <;> first | rfl | exact absurd rfl (h1 _) | exact absurd rfl (h2 _ _)
theorem addr_add (b o n : Nat) : (⟨b, o, none⟩ : Addr).add n = ⟨b, o + n, none⟩ := by
  unfold Addr.add; split <;> simp_all

theorem part_run {P : Program} {t : TypeId} {agg : Bool} {s : Nat} (hg : isAggT P t = some agg) (hz : sizeT P t = some s) (vs : List Value) (off : Nat) (h0 : agg = false → s = 1) (hl : ((vs.drop off).take s).length = s) (w : World) :
    (part t vs.toArray off).run P w = .ok (if agg then .agg ((vs.drop off).take s).toArray else ((vs.drop off).take s).getD 0 undef) w := by
  cases agg with
  | true =>
    simp only [part, Sem.run_bind, run_isAgg hg, Result.andThen_ok, if_true, run_size hz, Sem.run_pure]
    congr 2
    apply Array.ext'
    simp [List.extract_eq_take_drop]
  | false =>
    have h1 := h0 rfl
    subst h1
    have hv : vs[off]? = some (((vs.drop off).take 1).getD 0 undef) := by
      simp at hl
      have : off < vs.length := by omega
      simp [List.getD_eq_getElem?_getD, List.getElem?_take, List.getElem?_eq_getElem this]
    have : (vs.toArray)[off]? = some (((vs.drop off).take 1).getD 0 undef) := by rw [List.getElem?_toArray]; exact hv
    simp only [part, Sem.run_bind, run_isAgg hg, Result.andThen_ok, Bool.false_eq_true, if_false, this, Sem.run_pure]

section
variable {P : Program} {pol : Pol} {k : K} {δ j : Nat} {st : St} {B T : Nat → Prop} {a : Act} {o : Oper}

theorem Reps.drop {vs : List Value} {ds : List D} (h : Reps k vs ds) (n : Nat) : Reps k (vs.drop n) (ds.drop n) :=
  ⟨by simp [h.1], fun i d hd => by
    have := h.2 (n + i) d (by simpa using hd)
    simpa [List.getD_eq_getElem?_getD] using this⟩
theorem Reps.take {vs : List Value} {ds : List D} (h : Reps k vs ds) (n : Nat) : Reps k (vs.take n) (ds.take n) :=
  ⟨by simp [h.1], fun i d hd => by
    have hi : i < n := by
      rcases Nat.lt_or_ge i n with h | h
      · exact h
      · simp [List.getElem?_take, show ¬ i < n by omega] at hd
    have := h.2 i d (by simpa [List.getElem?_take, hi] using hd)
    simpa [List.getD_eq_getElem?_getD, List.getElem?_take, hi] using this⟩

/-- cells that read as these make the value that is read -/
theorem ofCells_rep {agg : Bool} {s : Nat} {cs : List D} {d : D} (h : ofCells agg s cs = some d) {vs : List Value} (hr : Reps k vs cs) (h1 : ∀ d ∈ cs, d.cells = [d] ∧ d.isVal = true) (ha : agg = false → s = 1) :
    Rep k (if agg then .agg vs.toArray else vs.getD 0 undef) d ∧ vs.length = s := by
  unfold ofCells at h
  split at h
  · rename_i hl
    refine ⟨?_, by rw [hr.1, hl]⟩
    split at h
    · simp at h; subst h
      rename_i hagg
      simp only [hagg, if_true]
      have hd := Reps.degr1 hr
      refine .agg vs hd.1 (fun d hd' => ?_) hd.2
      obtain ⟨c, hc, rfl⟩ := List.mem_map.1 hd'
      exact ⟨degr1_one (h1 c hc).1, (degr1_val c).trans (h1 c hc).2⟩
    · rename_i hagg
      simp only [hagg, Bool.false_eq_true, if_false]
      cases cs with
      | nil => simp at h
      | cons c cs => simp at h; subst h; exact hr.2 0 c (by simp)
  · simp at h

variable (L : Loc P pol k δ j st B T)
include L

theorem does_fld {t tx : TypeId} {x : Operand} {x' : Opnd} {i s : Nat} {fs : Array Field} {f : Field} (ho : o.op = .fieldAddr t x i) (hu : P.underlying t = some (.struct fs)) (hf : fs[i]? = some f)
    (hz : sizeT P f.type = some s) (h0 : s ≠ 0) (hx : opnd P tx x = some x')
    (hs : ∀ s ∈ (IOp.fld f.offset x').slots, Val k δ st B T (a.tmps.getD s undef) (st.σ s)) {d : D} (he : fldD f.offset (ev st.σ x') = some d) :
    Does P pol a o δ j k st B T d st := by
  have vx := opnd_val (a := a) hx fun s h => hs s (by simpa [IOp.slots] using h)
  unfold fldD at he
  split at he <;> simp at he <;> subst he
  · rename_i d0 i0 o0 e; obtain ⟨b, hb, r⟩ := Rep.inv_ptr (e ▸ vx.rep)
    exact .quiet L (v := .pointer (some ⟨b, o0 + f.offset, none⟩)) (by simp [execOp, ho, r, Instr.fieldAt, run_underlying hu, hf, Instr.sureAddr, fieldPlace, run_size hz, h0, addr_add]) (.plain (.ptr hb) (by simp))
  · rename_i cs e; obtain ⟨b, off, vs, r, hp, hone, hc, hr⟩ := Rep.inv_cptr (e ▸ vx.rep)
    refine .quiet L (v := .pointer (some ⟨b, off + f.offset, none⟩)) (by simp [execOp, ho, r, Instr.fieldAt, run_underlying hu, hf, Instr.sureAddr, fieldPlace, run_size hz, h0, addr_add]) (.plain (.cptr b _ (fun j => vs (f.offset + j)) ?_ (fun d hd => hone d (List.mem_of_mem_drop hd)) ?_ ?_) (by simp))
    · exact pures_of fun d hd => pures_mem hp d (List.mem_of_mem_drop hd)
    · intro j hj; simp at hj; have := hc (f.offset + j) (by omega); rwa [← Nat.add_assoc] at this
    · intro j d hd; exact hr _ d (by simpa using hd)

theorem does_fldv {t tx : TypeId} {x : Operand} {x' : Opnd} {i s : Nat} {agg : Bool} {fs : Array Field} {f : Field} (ho : o.op = .field t x i) (hu : P.underlying t = some (.struct fs)) (hf : fs[i]? = some f)
    (hg : isAggT P f.type = some agg) (hz : sizeT P f.type = some s) (h0 : agg = false → s = 1) (hx : opnd P tx x = some x')
    (hs : ∀ s' ∈ (IOp.fldv agg f.offset s x').slots, Val k δ st B T (a.tmps.getD s' undef) (st.σ s')) {d : D} (he : fldvD agg f.offset s (ev st.σ x') = some d) :
    Does P pol a o δ j k st B T d st := by
  have vx := opnd_val (a := a) hx fun s h => hs s (by simpa [IOp.slots] using h)
  unfold fldvD at he
  split at he
  · rename_i cs e
    simp only [Option.map_eq_some_iff] at he
    obtain ⟨d0, he, rfl⟩ := he
    obtain ⟨vs, r, hr, h1⟩ := Rep.inv_agg (e ▸ vx.rep)
    obtain ⟨hrep, hvl⟩ := ofCells_rep he ((hr.drop f.offset).take s) (fun d hd => h1 d (List.mem_of_mem_drop (List.mem_of_mem_take hd))) h0
    refine .quiet L (v := if agg then .agg ((vs.drop f.offset).take s).toArray else ((vs.drop f.offset).take s).getD 0 undef) ?_ (.plain hrep.degr (degr_tk d0))
    rw [show execOp a.eval o = (do let v ← Instr.field t (a.eval x) i; pure (Next.value v)) by simp [execOp, ho]]
    have hpart := part_run (P := P) hg hz vs f.offset h0 hvl k.w
    simp [Instr.field, run_underlying hu, hf, r, asAgg, hpart]
  · simp at he

theorem load_val {t tx : TypeId} {x : Operand} {x' : Opnd} {s : Nat} {agg : Bool} (ho : o.op = .load t x) (hg : isAggT P t = some agg) (hz : sizeT P t = some s) (h0 : agg = false → s = 1) (hx : opnd P tx x = some x')
    (hs : ∀ s' ∈ (IOp.load agg s x').slots, Val k δ st B T (a.tmps.getD s' undef) (st.σ s')) {d : D} (he : loadOp agg s (ev st.σ x') st = some d) :
    ∃ v, (execOp a.eval o).run P k.w = .ok (.value v) k.w ∧ Val k δ st B T v d := by
  have vx := opnd_val (a := a) hx fun s h => hs s (by simpa [IOp.slots] using h)
  -- what the machine reads
  have run : ∀ (b off : Nat) (vs : List Value), vs.length = s → (∀ j v, vs[j]? = some v → k.w.cell? ⟨b, off + j, none⟩ = some v) →
      (Instr.loadAt t (.pointer (some ⟨b, off, none⟩))).run P k.w = .ok (if agg then .agg vs.toArray else vs.getD 0 undef) k.w := by
    intro b off vs hl hc
    cases agg with
    | true =>
      have := run_loadCells_list (P := P) (w := k.w) ⟨b, off, none⟩ vs (fun j v hv => by rw [addr_add]; exact hc j v hv)
      rw [hl] at this
      simp [Instr.loadAt, Instr.sureAddr, loadVar, run_isAgg hg, run_size hz, this]
    | false =>
      have h1 := h0 rfl
      have hv : vs[0]? = some (vs.getD 0 undef) := by
        rw [List.getD_eq_getElem?_getD, List.getElem?_eq_getElem (show 0 < vs.length by omega)]; rfl
      have := hc 0 _ hv
      simp only [Nat.add_zero] at this
      simp [Instr.loadAt, Instr.sureAddr, loadVar, run_isAgg hg, this]
  unfold loadOp at he
  split at he
  · rename_i d' i off e
    obtain ⟨b, hb, r⟩ := Rep.inv_ptr (e ▸ vx.rep)
    split at he
    · rename_i cs hS
      simp only [Option.map_eq_some_iff] at he
      obtain ⟨d0, he, rfl⟩ := he
      have hobj := L.store d' i b hb
      rw [hS] at hobj
      obtain ⟨cv, et, fr, hheap, hlen, hfz, hcell⟩ := hobj
      have hlen' : ((cs.drop off).take s).length = s := by
        unfold ofCells at he; split at he
        · assumption
        · simp at he
      simp at hlen'
      -- the cells
      let vs : List Value := (List.range s).map fun j => cv.getD (off + j) undef
      have hR : Reps k vs ((cs.drop off).take s) := by
        refine ⟨by simp [vs]; omega, fun j x hx => ?_⟩
        have hj : j < s := by
          rcases Nat.lt_or_ge j s with h | h
          · exact h
          · simp [List.getElem?_take, show ¬ j < s by omega] at hx
        have hx' : cs[off + j]? = some x := by simpa [List.getElem?_take, hj] using hx
        have := (hcell (off + j) x hx').1
        simpa [vs, List.getD_eq_getElem?_getD, hj] using this
      have h1 : ∀ d ∈ (cs.drop off).take s, d.cells = [d] ∧ d.isVal = true := by
        intro d hd
        obtain ⟨j, hj⟩ := List.getElem?_of_mem (List.mem_of_mem_drop (List.mem_of_mem_take hd))
        obtain ⟨_, _, h1, h2⟩ := hcell j d hj
        refine ⟨h1, ?_⟩
        cases d <;> simp_all [D.upto, D.isVal]
      obtain ⟨hrep, hvl⟩ := ofCells_rep he hR h1 h0
      have hrun := run b off vs hvl (fun j v hv => by
        have hj : j < s := by
          rcases Nat.lt_or_ge j s with h | h
          · exact h
          · simp [vs, List.getElem?_eq_none (show (List.range s).length ≤ j by simpa using h)] at hv
        have hsz : off + j < cv.size := by omega
        simp only [vs, List.getElem?_map, List.getElem?_range hj, Option.map_some, Option.some.injEq] at hv
        subst hv
        simp [World.cell?, hheap, Array.getElem?_eq_getElem hsz, Array.getD_eq_getD_getElem?])
      refine ⟨if agg then .agg vs.toArray else vs.getD 0 undef, by simp [execOp, ho, r, hrun], ?_⟩
      -- the right that is lent
      have hlend : lend1 d' i st.now off d0 = d0 ∨ ∃ s xs, d0 = .slice .own s xs ∧ lend1 d' i st.now off d0 = .slice (.lent d' i off st.now) s xs := by
        unfold lend1; split
        · exact .inr ⟨_, _, rfl, rfl⟩
        · exact .inl rfl
      have hcase : agg = true ∨ (agg = false ∧ cs[off]? = some d0) := by
        cases agg with
        | true => exact .inl rfl
        | false =>
          right
          refine ⟨rfl, ?_⟩
          unfold ofCells at he
          rw [if_pos (by simpa using hlen')] at he
          have h1 := h0 rfl
          subst h1
          simpa [List.head?_eq_getElem?, List.getElem?_take] using he
      rcases hlend with hlend | ⟨s', xs, e0, hlend⟩
      · rw [hlend]
        rcases hcase with hg' | ⟨hg', hc0⟩
        · refine .plain hrep fun tk s xs e => ?_
          subst hg'
          unfold ofCells at he; rw [if_pos (by simpa using hlen')] at he; simp at he; rw [← he] at e; simp at e
        · have hown := (hcell off d0 hc0).2.1
          refine .plain hrep fun tk s xs e => ?_
          subst e
          cases tk with
          | none => exact .inr rfl
          | full => exact .inl rfl
          | own => simp [lend1] at hlend
          | tok t => simp [OwnOk] at hown
          | lent _ _ _ _ => simp [OwnOk] at hown
      · rw [hlend]
        rcases hcase with hg' | ⟨hg', hc0⟩
        · subst hg'
          unfold ofCells at he; rw [if_pos (by simpa using hlen')] at he; simp at he; rw [← he] at e0; simp at e0
        · subst e0
          have hown := (hcell off _ hc0).2.1
          subst hg'
          have hs1 := h0 rfl
          subst hs1
          have hv0 : (if (false = true) then Value.agg vs.toArray else vs.getD 0 undef) = cv.getD off undef := by simp [vs]
          rw [hv0] at hrep ⊢
          obtain ⟨ad, cap, b', off', vs', rv, hr'⟩ := Rep.inv_slice hrep
          rw [rv] at hrep hown ⊢
          refine ⟨?_, ?_, L.has d' i b hb⟩
          · cases hrep with | slice b off vs hl hle hf he ha hc hr => exact .slice b off vs hl hle (by simp) he ha hc hr
          · simp only [CellTk]; exact ⟨Nat.le_refl _, fun _ => hown⟩
    · simp at he
  · rename_i cs e
    obtain ⟨b, off, vs, r, hp, hone, hc, hr⟩ := Rep.inv_cptr (e ▸ vx.rep)
    simp only [Option.map_eq_some_iff] at he
    obtain ⟨d0, he, rfl⟩ := he
    have hlen : (cs.take s).length = s := by
      unfold ofCells at he; split at he
      · assumption
      · simp at he
    let us : List Value := (List.range s).map vs
    have hR : Reps k us (cs.take s) := by
      refine ⟨by simp [us]; simp at hlen; omega, fun j x hx => ?_⟩
      have hj : j < s := by
        rcases Nat.lt_or_ge j s with h | h
        · exact h
        · simp [List.getElem?_take, show ¬ j < s by omega] at hx
      have := hr j x (by simpa [List.getElem?_take, hj] using hx)
      simpa [us, List.getD_eq_getElem?_getD, hj] using this
    have h1 : ∀ d ∈ cs.take s, d.cells = [d] ∧ d.isVal = true := by
      intro d hd
      have hp' := pures_mem hp d (List.mem_of_mem_take hd)
      refine ⟨hone d (List.mem_of_mem_take hd), ?_⟩
      cases d <;> first | rfl | (simp [D.pure] at hp')
    obtain ⟨hrep, hvl⟩ := ofCells_rep he hR h1 h0
    have hrun := run b off us hvl (fun j v hv => by
      have hj : j < s := by
        rcases Nat.lt_or_ge j s with h | h
        · exact h
        · simp [us, List.getElem?_eq_none (show (List.range s).length ≤ j by simpa using h)] at hv
      simp only [us, List.getElem?_map, List.getElem?_range hj, Option.map_some, Option.some.injEq] at hv
      subst hv
      simp at hlen
      exact (hc j (by omega)).cell)
    exact ⟨if agg then .agg us.toArray else us.getD 0 undef, by simp [execOp, ho, r, hrun], .plain hrep.degr (degr_tk d0)⟩
  · simp at he

theorem does_load {t tx : TypeId} {x : Operand} {x' : Opnd} {s : Nat} {agg : Bool} (ho : o.op = .load t x) (hg : isAggT P t = some agg) (hz : sizeT P t = some s) (h0 : agg = false → s = 1) (hx : opnd P tx x = some x')
    (hs : ∀ s' ∈ (IOp.load agg s x').slots, Val k δ st B T (a.tmps.getD s' undef) (st.σ s')) {d : D} (he : loadOp agg s (ev st.σ x') st = some d) :
    Does P pol a o δ j k st B T d st := by
  obtain ⟨v, h1, h2⟩ := load_val L ho hg hz h0 hx hs he
  exact .quiet L h1 h2
end
end Go.Mia
namespace Go.Mia
open Go

theorem asNat_some {d : D} {m : Nat} (h : asNat d = some m) : ∃ kd n, d = .int kd n ∧ 0 ≤ n ∧ n.toNat = m := by
  unfold asNat at h
  split at h
  · split at h <;> simp at h; exact ⟨_, _, rfl, ‹_›, h⟩
  · simp at h

theorem flat_len {s : Nat} : ∀ {xs : List D}, (∀ x ∈ xs, x.cells.length = s) → (xs.flatMap D.cells).length = xs.length * s
  | [], _ => by simp
  | x :: xs, h => by
    simp only [List.flatMap_cons, List.length_append, List.length_cons]
    rw [flat_len fun y hy => h y (by simp [hy]), h x (by simp), Nat.add_mul, Nat.one_mul, Nat.add_comm]
theorem flat_at {s : Nat} : ∀ {xs : List D}, (∀ x ∈ xs, x.cells.length = s) → ∀ (j i : Nat) (x : D), xs[j]? = some x → i < s → (xs.flatMap D.cells)[j * s + i]? = x.cells[i]?
  | [], _, j, i, x, hx, _ => by simp at hx
  | y :: ys, h, j, i, x, hx, hi => by
    simp only [List.flatMap_cons]
    have hy := h y (by simp)
    cases j with
    | zero =>
      simp at hx; subst hx
      rw [List.getElem?_append_left (by omega)]; simp
    | succ j =>
      have hx' : ys[j]? = some x := by simpa using hx
      rw [List.getElem?_append_right (by rw [hy, Nat.add_mul]; omega), hy, show (j + 1) * s + i - s = j * s + i by rw [Nat.add_mul]; omega]
      exact flat_at (fun z hz => h z (by simp [hz])) j i x hx' hi

section
variable {P : Program} {pol : Pol} {k : K} {δ j : Nat} {st : St} {B T : Nat → Prop} {a : Act} {o : Oper} (L : Loc P pol k δ j st B T)
include L

theorem does_idx_arr {t tx ti e : TypeId} {x i : Operand} {x' i' : Opnd} {n s m : Nat} (ho : o.op = .indexAddr t x i) (hu : P.underlying t = some (.array n e)) (hz : sizeT P e = some s)
    (hx : opnd P tx x = some x') (hi : opnd P ti i = some i')
    (hs : ∀ s' ∈ (IOp.idx (some n) s x' i').slots, Val k δ st B T (a.tmps.getD s' undef) (st.σ s')) (hm : asNat (ev st.σ i') = some m) {d : D} (he : idxD (some n) s (ev st.σ x') m = some d) :
    Does P pol a o δ j k st B T d st := by
  have vx := opnd_val (a := a) hx fun s h => hs s (by simp [IOp.slots, h])
  have vi := opnd_val (a := a) hi fun s h => hs s (by simp [IOp.slots, h])
  obtain ⟨kd, z, ei, hz0, hzm⟩ := asNat_some hm
  have ri := Rep.inv_int (ei ▸ vi.rep)
  unfold idxD at he
  split at he
  · rename_i n' d1 i1 o1 e1 e2
    simp at e1; subst e1
    split at he <;> simp at he; subst he; rename_i hlt
    obtain ⟨b, hb, r⟩ := Rep.inv_ptr (e2 ▸ vx.rep)
    refine .quiet L (v := .pointer (some ⟨b, o1 + m * s, none⟩)) ?_ (.plain (.ptr hb) (by simp))
    have : 0 ≤ z ∧ z < (n : Int) := by omega
    simp [execOp, ho, r, ri, Instr.indexAt, run_underlying hu, asIntOf, Instr.sureAddr, this, run_size hz, addr_add, hzm]
  · rename_i n' cs e1 e2
    simp at e1; subst e1
    split at he <;> simp at he; subst he; rename_i hlt
    obtain ⟨b, off, vs, r, hp, hone, hc, hr⟩ := Rep.inv_cptr (e2 ▸ vx.rep)
    refine .quiet L (v := .pointer (some ⟨b, off + m * s, none⟩)) ?_ (.plain (.cptr b _ (fun j => vs (m * s + j)) ?_ (fun d hd => hone d (List.mem_of_mem_drop hd)) ?_ ?_) (by simp))
    · have : 0 ≤ z ∧ z < (n : Int) := by omega
      simp [execOp, ho, r, ri, Instr.indexAt, run_underlying hu, asIntOf, Instr.sureAddr, this, run_size hz, addr_add, hzm]
    · exact pures_of fun d hd => pures_mem hp d (List.mem_of_mem_drop hd)
    · intro j hj; simp at hj; have := hc (m * s + j) (by omega); rwa [← Nat.add_assoc] at this
    · intro j d hd; exact hr _ d (by simpa using hd)
  · simp at *
  · simp at *
  · simp at he

theorem does_idx_sl {t tx ti e : TypeId} {x i : Operand} {x' i' : Opnd} {s m : Nat} (ho : o.op = .indexAddr t x i) (hu : P.underlying t = some (.slice e)) (hz : sizeT P e = some s)
    (hx : opnd P tx x = some x') (hi : opnd P ti i = some i')
    (hs : ∀ s' ∈ (IOp.idx none s x' i').slots, Val k δ st B T (a.tmps.getD s' undef) (st.σ s')) (hm : asNat (ev st.σ i') = some m) {d : D} (he : idxD none s (ev st.σ x') m = some d) :
    Does P pol a o δ j k st B T d st := by
  have vx := opnd_val (a := a) hx fun s h => hs s (by simp [IOp.slots, h])
  have vi := opnd_val (a := a) hi fun s h => hs s (by simp [IOp.slots, h])
  obtain ⟨kd, z, ei, hz0, hzm⟩ := asNat_some hm
  have ri := Rep.inv_int (ei ▸ vi.rep)
  have run : ∀ (b off len cap : Nat), m < len → (execOp a.eval o).run P k.w = .ok (.value (.pointer (some ⟨b, off + m * s, none⟩))) k.w ∨ a.eval x ≠ .slice (some ⟨b, off, none⟩) len cap := by
    intro b off len cap hlt
    by_cases r : a.eval x = .slice (some ⟨b, off, none⟩) len cap
    · left
      have : 0 ≤ z ∧ z < (len : Int) := by omega
      simp [execOp, ho, r, ri, Instr.indexAt, run_underlying hu, asIntOf, this, run_size hz, addr_add, hzm]
    · exact .inr r
  unfold idxD at he
  split at he
  · simp at *
  · simp at *
  · rename_i tk s' xs e1 e2
    split at he
    · rename_i hss; subst hss
      split at he <;> simp at he
      subst he; rename_i x0 hx0
      obtain ⟨ad, cap, b, off, vs, r, hle, hf, hel, had, hc, hr⟩ := Rep.inv_slice (e2 ▸ vx.rep)
      have hm' : m < xs.length := (List.getElem?_eq_some_iff.1 hx0).1
      have ha' := had (by omega)
      subst ha'
      have hmem : x0 ∈ xs := List.mem_of_getElem? hx0
      obtain ⟨hl0, hp0, hf0⟩ := elemsOk_mem hel x0 hmem
      have hall : ∀ x ∈ xs, x.cells.length = s' := fun x hx => (elemsOk_mem hel x hx).1
      refine .quiet L (v := .pointer (some ⟨b, off + m * s', none⟩)) ?_ (.plain (.cptr b _ (fun j => vs (m * s' + j)) (pure_cells hp0) (flat_one hf0) ?_ ?_) (by simp))
      · rcases run b off xs.length cap hm' with h | h
        · exact h
        · exact absurd r h
      · intro j hj
        have hbd : m * s' + j < (xs.flatMap D.cells).length := by
          rw [flat_len hall]
          have : (m + 1) * s' ≤ xs.length * s' := Nat.mul_le_mul_right _ (by omega)
          rw [Nat.add_mul, Nat.one_mul] at this
          omega
        have := hc (m * s' + j) hbd
        rwa [← Nat.add_assoc] at this
      · intro j d hd
        have hj : j < s' := by rw [← hl0]; exact (List.getElem?_eq_some_iff.1 hd).1
        exact hr _ d (by rw [flat_at hall m j x0 hx0 hj]; exact hd)
    · simp at he
  · rename_i d1 b1 off1 len1 s1 c1 e1 e2
    split at he <;> simp at he
    subst he; rename_i hh
    obtain ⟨hss, hlt⟩ := hh; subst hss
    obtain ⟨ad, cap, r, hle, hcc, had⟩ := Rep.inv_vsl (e2 ▸ vx.rep)
    obtain ⟨b, hb, ha'⟩ := had (by omega)
    subst ha'
    refine .quiet L (v := .pointer (some ⟨b, off1 + m * s1, none⟩)) ?_ (.plain (.ptr hb) (by simp))
    rcases run b off1 len1 cap hlt with h | h
    · exact h
    · exact absurd r h
  · simp at he

theorem does_idxs {t tx ti : TypeId} {x i : Operand} {x' i' : Opnd} {m : Nat} (ho : o.op = .index t x i) (hu : P.underlying t = some .string)
    (hx : opnd P tx x = some x') (hi : opnd P ti i = some i')
    (hs : ∀ s' ∈ (IOp.idxs x' i').slots, Val k δ st B T (a.tmps.getD s' undef) (st.σ s')) (hm : asNat (ev st.σ i') = some m) {d : D} (he : idxsD (ev st.σ x') m = some d) :
    Does P pol a o δ j k st B T d st := by
  have vx := opnd_val (a := a) hx fun s h => hs s (by simp [IOp.slots, h])
  have vi := opnd_val (a := a) hi fun s h => hs s (by simp [IOp.slots, h])
  obtain ⟨kd, z, ei, hz0, hzm⟩ := asNat_some hm
  have ri := Rep.inv_int (ei ▸ vi.rep)
  unfold idxsD at he
  split at he
  · rename_i l e1
    split at he <;> simp at he
    subst he; rename_i c hc
    have r := Rep.inv_str (e1 ▸ vx.rep)
    have hlt : m < l.length := (List.getElem?_eq_some_iff.1 hc).1
    have hget : (ByteArray.mk l.toArray)[m]? = some c := by
      have hsz : m < (ByteArray.mk l.toArray).size := by simp only [ByteArray.size, List.size_toArray]; exact hlt
      rw [ByteArray.getElem?_lt' _ _ hsz]
      have : l[m]? = some c := hc
      rw [List.getElem?_eq_getElem hlt] at this
      simp at this
      rw [← this]; rfl
    refine .quiet L (v := .int .u8 (c.toNat : Int)) ?_ (.plain (.int _ _) (by simp))
    simp [execOp, ho, r, ri, Instr.index, asIntOf, run_underlying hu, hz0, hzm, hget]
  · simp at he

theorem does_idxa {t tx ti e : TypeId} {x i : Operand} {x' i' : Opnd} {agg : Bool} {n s m : Nat} (ho : o.op = .index t x i) (hu : P.underlying t = some (.array n e)) (hg : isAggT P e = some agg) (hz : sizeT P e = some s) (h0 : agg = false → s = 1)
    (hx : opnd P tx x = some x') (hi : opnd P ti i = some i')
    (hs : ∀ s' ∈ (IOp.idxa agg n s x' i').slots, Val k δ st B T (a.tmps.getD s' undef) (st.σ s')) (hm : asNat (ev st.σ i') = some m) (hlt : m < n) {d : D} (he : fldvD agg (m * s) s (ev st.σ x') = some d) :
    Does P pol a o δ j k st B T d st := by
  have vx := opnd_val (a := a) hx fun s h => hs s (by simp [IOp.slots, h])
  have vi := opnd_val (a := a) hi fun s h => hs s (by simp [IOp.slots, h])
  obtain ⟨kd, z, ei, hz0, hzm⟩ := asNat_some hm
  have ri := Rep.inv_int (ei ▸ vi.rep)
  unfold fldvD at he
  split at he
  · rename_i cs e1
    simp only [Option.map_eq_some_iff] at he
    obtain ⟨d0, he, rfl⟩ := he
    obtain ⟨vs, r, hr, h1⟩ := Rep.inv_agg (e1 ▸ vx.rep)
    obtain ⟨hrep, hvl⟩ := ofCells_rep he ((hr.drop (m * s)).take s) (fun d hd => h1 d (List.mem_of_mem_drop (List.mem_of_mem_take hd))) h0
    refine .quiet L (v := if agg then .agg ((vs.drop (m * s)).take s).toArray else ((vs.drop (m * s)).take s).getD 0 undef) ?_ (.plain hrep.degr (degr_tk d0))
    have hpart := part_run (P := P) hg hz vs (m * s) h0 hvl k.w
    have : 0 ≤ z ∧ z < (n : Int) := by omega
    simp only [execOp, ho, r, ri, Instr.index, asIntOf, Sem.run_bind, Sem.run_pure, Result.andThen_ok, run_underlying hu, this, and_self, if_true, run_size hz, hzm, hpart]
  · simp at he

theorem does_mkI {t tx : TypeId} {x : Operand} {x' : Opnd} (ho : o.op = .makeInterface t x) (hu : isConcrete P t = true) (hx : opnd P tx x = some x')
    (hs : ∀ s ∈ (IOp.mkI t x').slots, Val k δ st B T (a.tmps.getD s undef) (st.σ s)) : Does P pol a o δ j k st B T (.iface t (ev st.σ x').degr) st := by
  have vx := opnd_val (a := a) hx fun s h => hs s (by simpa [IOp.slots] using h)
  refine .quiet L (v := .iface t (a.eval x)) ?_ (.plain (.iface vx.rep.degr) (by simp))
  unfold isConcrete at hu
  split at hu
  · simp at hu
  · simp at hu
  · rename_i d hn hd
    simp only [execOp, ho, Instr.makeInterface, Sem.run_bind, run_underlying hd, Result.andThen_ok]
    cases d <;> first | rfl | exact absurd rfl (hn _)

theorem does_tas {t t0 tx : TypeId} {ok : Bool} {z : D} {x : Operand} {x' : Opnd} (ho : o.op = .typeAssert x t0 t ok) (hu : isConcrete P t = true)
    (hzero : zeroV P t = some z) (hx : opnd P tx x = some x')
    (hs : ∀ s ∈ (IOp.tas t z ok x').slots, Val k δ st B T (a.tmps.getD s undef) (st.σ s)) {d : D} (he : tasD t z ok (ev st.σ x') = some d) : Does P pol a o δ j k st B T d st := by
  have vx := opnd_val (a := a) hx fun s h => hs s (by simpa [IOp.slots] using h)
  obtain ⟨zv, hzv, hzrep⟩ : ∃ zv, (∀ w, (zeroValue t).run P w = .ok zv w) ∧ Rep k zv z := by
    unfold zeroV at hzero
    split at hzero
    · rename_i zv hb
      simp only [Option.bind_eq_some_iff] at hb
      obtain ⟨i, hi, hz⟩ := hb
      exact ⟨zv, fun w => by simp [zeroValue, typeInfo, hi, hz], (constD_ok hzero k).1⟩
    · simp at hzero
  have hund : ∃ dsc, P.underlying t = some dsc ∧ ∀ ms, dsc ≠ .interface ms := by
    unfold isConcrete at hu
    split at hu
    · simp at hu
    · simp at hu
    · rename_i dsc hn hd; exact ⟨dsc, hd, fun ms e => hn ms e⟩
  obtain ⟨dsc, hd, hn⟩ := hund
  have tup2 : ∀ (v1 : Value) (d1 : D) (b : Bool), Rep k v1 d1 → Rep k (.tuple #[v1, .bool b]) (.tup [d1, .bool b]) := by
    intro v1 d1 b h
    exact Rep.tup (k := k) [v1, .bool b] rfl (Reps.cons h (.cons (.bool b) .nil)).2
  unfold tasD at he
  split at he
  · rename_i e
    have r := Rep.inv_nili (e ▸ vx.rep)
    split at he <;> simp at he
    subst he; rename_i hok; subst hok
    refine .quiet L (v := .tuple #[zv, .bool false]) ?_ (.plain (tup2 _ _ _ hzrep) (by simp))
    simp only [execOp, ho, r, Instr.typeAssert, Sem.run_bind, run_underlying hd, Result.andThen_ok]
    cases dsc <;> first | exact absurd rfl (hn _) | simp [hzv]
  · rename_i u w e
    obtain ⟨uv, r, hru⟩ := Rep.inv_iface (e ▸ vx.rep)
    split at he
    · rename_i hut; subst hut
      simp at he; subst he
      refine .quiet L (v := if ok then .tuple #[uv, .bool true] else uv) ?_ (.plain ?_ ?_)
      · simp only [execOp, ho, r, Instr.typeAssert, Sem.run_bind, run_underlying hd, Result.andThen_ok]
        cases dsc <;> first | exact absurd rfl (hn _) | simp
      · cases ok
        · simpa using hru.degr
        · simpa using tup2 _ _ true hru.degr
      · cases ok
        · simpa using degr_tk w
        · simp
    · rename_i hut
      split at he <;> simp at he
      subst he; rename_i hok; subst hok
      refine .quiet L (v := .tuple #[zv, .bool false]) ?_ (.plain (tup2 _ _ _ hzrep) (by simp))
      simp only [execOp, ho, r, Instr.typeAssert, Sem.run_bind, run_underlying hd, Result.andThen_ok]
      cases dsc <;> first | exact absurd rfl (hn _) | simp [hzv, hut]
  · simp at he

omit L in
theorem foldMM_run {isMax : Bool} : ∀ {ds : List D} {kd : IntKind} {n : Int} {r : D} {vs : List Value}, foldMM isMax (.int kd n) ds = some r → Reps k vs ds →
    ∃ u, (vs.foldlM (if isMax then Builtin.max2 else Builtin.min2) (.int kd n)).run P k.w = .ok u k.w ∧ Rep k u r ∧ (∃ m, r = .int kd m)
  | [], kd, n, r, vs, h, hvs => by
    simp [foldMM] at h; subst h
    have : vs = [] := List.eq_nil_of_length_eq_zero hvs.1
    subst this
    exact ⟨.int kd n, by simp, .int _ _, _, rfl⟩
  | d2 :: ds, kd, n, r, vs, h, hvs => by
    cases vs with
    | nil => have := hvs.1; simp at this
    | cons v2 vs =>
      have hh := hvs.head
      cases d2 with
      | int k2 n2 =>
        simp only [foldMM] at h
        split at h
        · rename_i hk; subst hk
          have r2 := Rep.inv_int hh
          subst r2
          obtain ⟨u, hu, hr⟩ := foldMM_run (isMax := isMax) h hvs.tail
          refine ⟨u, ?_, hr⟩
          cases isMax <;> simpa [List.foldlM, Builtin.max2, Builtin.min2] using hu
        · simp at h
      | _ => simp [foldMM] at h

theorem does_minmax {isMax : Bool} {b : Builtin} {x : Operand} {xs : List Operand} {args : Array Operand} {ys : List Opnd} {ats : Array TypeId}
    (ho : o.op = .call { callee := .builtin b, args, argTypes := ats }) (hb : b = (if isMax then .max else .min)) (hargs : args.toList = x :: xs) (hx : opnds P [] (x :: xs) = some ys)
    (hs : ∀ s ∈ (IOp.minmax isMax ys).slots, Val k δ st B T (a.tmps.getD s undef) (st.σ s)) {kd : IntKind} {n : Int} {d : D} {ds : List D} (hev : evs st.σ ys = .int kd n :: ds) (he : foldMM isMax (.int kd n) ds = some d) : Does P pol a o δ j k st B T d st := by
  have hr := opnds_reps (a := a) hx fun s h => hs s (by simpa [IOp.slots] using h)
  rw [hev] at hr
  simp only [List.map_cons] at hr
  have r0 := Rep.inv_int hr.head
  obtain ⟨u, hu, hru, m, rfl⟩ := foldMM_run (P := P) he hr.tail
  refine .quiet L (v := u) ?_ (.plain hru (by simp))
  have hmap : (args.map a.eval).toList = .int kd n :: xs.map a.eval := by rw [Array.toList_map, hargs, List.map_cons, r0]
  have hmax : (args.map a.eval).toList = .int kd n :: xs.map a.eval := hmap
  subst hb
  cases isMax
  · simp only [execOp, ho, resolve, invoke, builtin, Builtin.min_, hmap, Sem.run_bind, Sem.run_pure, Result.andThen_ok]
    simp only [Bool.false_eq_true, if_false] at hu ⊢
    simp only [hmap, Sem.run_bind, hu, Result.andThen_ok, Sem.run_pure]
  · simp only [execOp, ho, resolve, invoke, builtin, Builtin.max_, hmap, Sem.run_bind, Sem.run_pure, Result.andThen_ok]
    simp only [if_true] at hu ⊢
    simp only [hmap, Sem.run_bind, hu, Result.andThen_ok, Sem.run_pure]

omit L in
theorem degr_full_none {tk : Tk} {d : D} {s : Nat} {xs : List D} (h : d.degr = .slice tk s xs) : tk = .none := by
  cases d <;> simp [D.degr, D.degr1] at h
  exact h.1.symm

omit L in
theorem lits_agg {ss : List Nat} {vs : List Value} {ds : List D} (h : lits ss vs = some ds) : Rep k (.agg vs.toArray) (.agg ds) := by
  obtain ⟨hl, hd⟩ := lits_ok (k := k) h
  refine .agg vs hl (fun d hd' => ?_) fun j d hd' => (hd j d hd').rep
  obtain ⟨j, hj⟩ := List.getElem?_of_mem hd'
  exact ⟨(hd j d hj).one, (hd j d hj).val⟩
end
end Go.Mia
namespace Go.Mia
open Go

theorem eqs_cons {l : Leaf} {ls : List Leaf} {as bs : List D} {r : Bool} (h : eqs (l :: ls) as bs = some r) :
    ∃ a as' b bs' r1 r2, as = a :: as' ∧ bs = b :: bs' ∧ eqLeaf l a b = some r1 ∧ eqs ls as' bs' = some r2 ∧ r = (r1 && r2) := by
  cases as with
  | nil => simp [eqs] at h
  | cons a as' =>
    cases bs with
    | nil => simp [eqs] at h
    | cons b bs' =>
      simp only [eqs] at h
      split at h
      · simp at h
      · rename_i x hx
        split at h
        · simp at h
        · rename_i y hy
          simp at h
          exact ⟨a, as', b, bs', x, y, rfl, rfl, hx, hy, h.symm⟩
theorem eqs_nil {as bs : List D} {r : Bool} (h : eqs [] as bs = some r) : as = [] ∧ bs = [] ∧ r = true := by
  cases as <;> cases bs <;> simp_all [eqs]
theorem eqs_len : ∀ {ls : List Leaf} {as bs : List D} {r : Bool}, eqs ls as bs = some r → as.length = ls.length ∧ bs.length = ls.length
  | [], as, bs, r, h => by obtain ⟨rfl, rfl, _⟩ := eqs_nil h; exact ⟨rfl, rfl⟩
  | l :: ls, as, bs, r, h => by
    obtain ⟨a, as', b, bs', r1, r2, rfl, rfl, _, h2, _⟩ := eqs_cons h
    obtain ⟨e1, e2⟩ := eqs_len h2
    simp [e1, e2]
theorem eqs_append {l1 l2 : List Leaf} : ∀ {as bs : List D} {r : Bool}, eqs (l1 ++ l2) as bs = some r →
    ∃ r1 r2, eqs l1 (as.take l1.length) (bs.take l1.length) = some r1 ∧ eqs l2 (as.drop l1.length) (bs.drop l1.length) = some r2 ∧ r = (r1 && r2) := by
  induction l1 with
  | nil => intro as bs r h; exact ⟨true, r, by simp [eqs], by simpa using h, by simp⟩
  | cons l l1 ih =>
    intro as bs r h
    obtain ⟨a, as', b, bs', r1, r2, rfl, rfl, h1, h2, rfl⟩ := eqs_cons h
    obtain ⟨r3, r4, h3, h4, rfl⟩ := ih h2
    refine ⟨r1 && r3, r4, ?_, by simpa using h4, by simp [Bool.and_assoc]⟩
    simp [eqs, h1, h3]

section
variable {P : Program} {k : K}

theorem leaves_run : ∀ (n e : Nat) (t : TypeId) (ls : List Leaf), leavesT P n t = some ls → ∀ (X Y : List Value) (as bs : List D) (r : Bool), Reps k X as → Reps k Y bs → eqs ls as bs = some r → ∀ w : World,
    (isAggT P t = some true → (Op.equalIn (n + e) t (.agg X.toArray) (.agg Y.toArray)).run P w = .ok r w) ∧
    (isAggT P t = some false → (Op.equalIn (n + e) t (X.getD 0 undef) (Y.getD 0 undef)).run P w = .ok r w)
  | 0, e, t, ls, h => by simp [leavesT] at h
  | n + 1, e, t, ls, h => by
    intro X Y as bs r hX hY he w
    rw [show n + 1 + e = (n + e) + 1 by omega]
    unfold leavesT at h
    split at h
    · rename_i hu; simp at h; subst h
      refine ⟨fun hg => by simp [isAggT, hu] at hg, fun _ => ?_⟩
      obtain ⟨a, as', b, bs', r1, r2, rfl, rfl, h1, h2, rfl⟩ := eqs_cons he
      cases a <;> cases b <;> simp [eqLeaf] at h1
      subst h1
      have e1 := Rep.inv_bool (hX.2 0 _ rfl)
      have e2 := Rep.inv_bool (hY.2 0 _ rfl)
      rw [e1, e2, run_equalIn_bool' w _ t _ _ hu]
      have := eqs_len h2
      cases as' <;> cases bs' <;> simp_all [eqs]
    · rename_i kk hu; simp at h; subst h
      refine ⟨fun hg => by simp [isAggT, hu] at hg, fun _ => ?_⟩
      obtain ⟨a, as', b, bs', r1, r2, rfl, rfl, h1, h2, rfl⟩ := eqs_cons he
      cases a <;> cases b <;> simp [eqLeaf] at h1
      obtain ⟨hk, rfl⟩ := h1
      subst hk
      have e1 := Rep.inv_int (hX.2 0 _ rfl)
      have e2 := Rep.inv_int (hY.2 0 _ rfl)
      rw [e1, e2, run_equalIn_int w _ t _ kk _ _ hu]
      have := eqs_len h2
      cases as' <;> cases bs' <;> simp_all [eqs, beqD]
    · rename_i hu; simp at h; subst h
      refine ⟨fun hg => by simp [isAggT, hu] at hg, fun _ => ?_⟩
      obtain ⟨a, as', b, bs', r1, r2, rfl, rfl, h1, h2, rfl⟩ := eqs_cons he
      cases a <;> cases b <;> simp [eqLeaf] at h1
      subst h1
      have e1 := Rep.inv_str (hX.2 0 _ rfl)
      have e2 := Rep.inv_str (hY.2 0 _ rfl)
      rw [e1, e2, run_equalIn_string w _ t _ _ hu]
      have := eqs_len h2
      cases as' <;> cases bs' <;> simp_all [eqs, beqD]
    · rename_i fs hu
      split at h
      · simp at h
      · rename_i hst
        refine ⟨fun _ => ?_, fun hg => by simp [isAggT, hu] at hg⟩
        have hf : P.fieldsOf t = fs := by simp [Program.fieldsOf, hu]
        rw [run_equalIn_struct w (n + e) t _ _ (by rw [hf]; exact hu) (by simpa using hst), hf]
        -- the fields, from an offset on
        have key : ∀ (fl : List Field) (off : Nat) (ls : List Leaf) (r : Bool), leavesGo P (leavesT P n) off fl = some ls → eqs ls (as.drop off) (bs.drop off) = some r →
            (Op.eqFields (n + e) X.toArray Y.toArray fl).run P w = .ok r w := by
          intro fl
          induction fl with
          | nil => intro off ls r h he; simp [leavesGo] at h; subst h; have := eqs_len he; cases hd : as.drop off <;> cases hd' : bs.drop off <;> simp_all [eqs, Op.eqFields]
          | cons f fl ih =>
            intro off ls r h he
            simp only [leavesGo] at h
            split at h
            · simp at h
            · rename_i hno
              simp only [not_or, Decidable.not_not] at hno
              obtain ⟨hname, hoff⟩ := hno
              split at h
              · simp at h
              · rename_i lf hlf
                split at h
                · rename_i hsz
                  simp only [Option.map_eq_some_iff] at h
                  obtain ⟨ls', hls', rfl⟩ := h
                  obtain ⟨r1, r2, h1, h2, rfl⟩ := eqs_append he
                  have hl1 := (eqs_len h1).1
                  have hl1' := (eqs_len h1).2
                  simp at hl1 hl1'
                  have ht : P.info? f.type ≠ none ∧ ∃ b, isAggT P f.type = some b := by
                    cases n with
                    | zero => simp [leavesT] at hlf
                    | succ n =>
                      unfold leavesT at hlf
                      have hinfo : ∀ d, P.underlying f.type = some d → P.info? f.type ≠ none := by
                        intro d hd hn; simp [Program.underlying, hn] at hd
                      cases hu' : P.underlying f.type with
                      | none => simp [hu'] at hlf
                      | some d =>
                        refine ⟨hinfo d hu', ?_⟩
                        cases d <;> first | (refine ⟨true, ?_⟩; simp [isAggT, hu']; done) | (refine ⟨false, ?_⟩; simp [isAggT, hu']; done)
                  obtain ⟨hinf, b, hb⟩ := ht
                  have hsz' : sizeT P f.type = some lf.length := by
                    cases hi : P.info? f.type with
                    | none => exact absurd hi hinf
                    | some i => simp [sizeT, hi]; simpa [Program.cellsOf, hi] using hsz
                  have h0 : b = false → lf.length = 1 := by
                    intro hb0; subst hb0
                    cases n with
                    | zero => simp [leavesT] at hlf
                    | succ n =>
                      unfold leavesT at hlf
                      cases hu' : P.underlying f.type with
                      | none => simp [hu'] at hlf
                      | some d => cases d <;> simp [hu'] at hlf <;> first | (subst hlf; rfl) | (simp [isAggT, hu'] at hb)
                  have hXl : ((X.drop off).take lf.length).length = lf.length := by simp [hX.1]; omega
                  have hYl : ((Y.drop off).take lf.length).length = lf.length := by simp [hY.1]; omega
                  have pX := part_run (P := P) hb hsz' X off h0 hXl w
                  have pY := part_run (P := P) hb hsz' Y off h0 hYl w
                  have hrec := leaves_run n e f.type lf hlf _ _ _ _ _ ((hX.drop off).take lf.length) ((hY.drop off).take lf.length) h1 w
                  have hrun : (Op.equalIn (n + e) f.type (if b then .agg ((X.drop off).take lf.length).toArray else ((X.drop off).take lf.length).getD 0 undef) (if b then .agg ((Y.drop off).take lf.length).toArray else ((Y.drop off).take lf.length).getD 0 undef)).run P w = .ok r1 w := by
                    cases b
                    · simpa using hrec.2 hb
                    · simpa using hrec.1 hb
                  have hrest := ih (off + lf.length) ls' r2 hls' (by simpa [List.drop_drop] using h2)
                  simp only [Op.eqFields, hname, ne_eq, not_false_eq_true, if_true, Sem.run_bind, hoff, pX, pY, Result.andThen_ok, hrun]
                  cases r1
                  · simp
                  · simpa using hrest
                · simp at h
        exact key fs.toList 0 ls r h (by simpa using he)
    · simp at h
end
end Go.Mia
namespace Go.Mia
open Go

/-- '==', '!=' come to the equality of the type -/
theorem eql_of {P : Program} {t : TypeId} {u v : Value} {r : Bool} {w : World} (h1 : binOp .eql t u v = (do pure (.bool (← Op.equal t u v)))) (h2 : binOp .neq t u v = (do pure (.bool (!(← Op.equal t u v)))))
    (h : (Op.equalIn (9999 + 1) t u v).run P w = .ok r w) : (binOp .eql t u v).run P w = .ok (.bool r) w ∧ (binOp .neq t u v).run P w = .ok (.bool !r) w := by
  have h' : (Op.equal t u v).run P w = .ok r w := h
  rw [h1, h2]
  simp only [Sem.run_bind, h', Result.andThen_ok, Sem.run_pure, and_self]
theorem eqIn_ptr {P : Program} {t el : TypeId} (d : Nat) (hu : P.underlying t = some (.pointer el)) (p q : Option Addr) (h : p = none ∨ q = none) (w : World) :
    (Op.equalIn (d + 1) t (.pointer p) (.pointer q)).run P w = .ok (p.isNone && q.isNone) w := by
  cases p <;> cases q <;> simp_all [Op.equalIn, run_underlying hu]
theorem eqIn_fn {P : Program} {t : TypeId} {p1 p2 : Array TypeId} {p3 : Bool} (d : Nat) (hu : P.underlying t = some (.func p1 p2 p3)) (w : World) :
    (Op.equalIn (d + 1) t .nilFunc .nilFunc).run P w = .ok true w ∧ (∀ f a b, (Op.equalIn (d + 1) t .nilFunc (.func f a b)).run P w = .ok false w) ∧ (∀ f a b, (Op.equalIn (d + 1) t (.func f a b) .nilFunc).run P w = .ok false w) := by
  refine ⟨?_, fun f a b => ?_, fun f a b => ?_⟩ <;> simp [Op.equalIn, run_underlying hu]
theorem eqIn_if {P : Program} {t : TypeId} {ms : Array (String × TypeId)} (d : Nat) (hu : P.underlying t = some (.interface ms)) (w : World) :
    (Op.equalIn (d + 1) t .nilIface .nilIface).run P w = .ok true w ∧ (∀ f a, (Op.equalIn (d + 1) t .nilIface (.iface f a)).run P w = .ok false w) ∧ (∀ f a, (Op.equalIn (d + 1) t (.iface f a) .nilIface).run P w = .ok false w) := by
  refine ⟨?_, fun f a => ?_, fun f a => ?_⟩ <;> simp [Op.equalIn, run_underlying hu]

section
variable {P : Program} {pol : Pol} {k : K} {δ j : Nat} {st : St} {B T : Nat → Prop} {a : Act} {o : Oper} (L : Loc P pol k δ j st B T)
include L

omit L in
/-- '==' as the model runs it, by kind -/
theorem eq_run {t : TypeId} {x y : Operand} {kd : EqK} (hk : eqKOf P t x y = some kd) {u v : Value} {d e : D} (hu : Rep k u d) (hv : Rep k v e) {r : Bool} (he : eqD kd d e = some r) (w : World) :
    ((eqGuard .eql t x y u v).run P w = .ok () w ∧ (eqGuard .neq t x y u v).run P w = .ok () w) ∧ (binOp .eql t u v).run P w = .ok (.bool r) w ∧ (binOp .neq t u v).run P w = .ok (.bool !r) w := by
  unfold eqKOf at hk
  split at hk <;> try (simp at hk; done)
  · simp at hk; subst hk
    simp only [eqD] at he
    unfold eqInt at he
    split at he
    · rename_i k1 n1 k2 n2
      split at he <;> simp at he
      rename_i h; subst h; subst he
      have e1 := Rep.inv_int hu; have e2 := Rep.inv_int hv
      subst e1; subst e2
      refine ⟨⟨by simp [eqGuard], by simp [eqGuard]⟩, by simp [binOp, Op.intCmp, beqD], by simp [binOp, Op.intCmp, bne, beqD]⟩
    · simp at he
  · simp at hk; subst hk
    simp only [eqD] at he
    unfold eqStr at he
    split at he <;> simp at he
    subst he
    have e1 := Rep.inv_str hu; have e2 := Rep.inv_str hv
    subst e1; subst e2
    refine ⟨⟨by simp [eqGuard], by simp [eqGuard]⟩, by simp [binOp, Op.stringOp, beqD], by simp [binOp, Op.stringOp, beqD]⟩
  · rename_i hu'
    simp at hk; subst hk
    simp only [eqD] at he
    unfold eqBool at he
    split at he <;> simp at he
    subst he
    have e1 := Rep.inv_bool hu; have e2 := Rep.inv_bool hv
    subst e1; subst e2
    refine ⟨⟨by simp [eqGuard], by simp [eqGuard]⟩, eql_of rfl rfl (run_equalIn_bool' (P := P) w 9999 t _ _ hu')⟩
  · rename_i el hu'
    simp at hk; subst hk
    simp only [eqD] at he
    have hb : ∀ p q : Option Addr, (p = none ∨ q = none) → ∀ r, (p.isNone && q.isNone) = r → (binOp .eql t (.pointer p) (.pointer q)).run P w = .ok (.bool r) w ∧ (binOp .neq t (.pointer p) (.pointer q)).run P w = .ok (.bool !r) w := by
      intro p q h r hr
      subst hr
      exact eql_of rfl rfl (eqIn_ptr 9999 hu' p q h w)
    unfold eqPtr at he
    split at he <;> simp at he <;> subst he
    · have e1 := Rep.inv_nilp hu; have e2 := Rep.inv_nilp hv; subst e1; subst e2
      exact ⟨⟨by simp [eqGuard], by simp [eqGuard]⟩, hb none none (.inl rfl) true rfl⟩
    · have e1 := Rep.inv_nilp hu; obtain ⟨b, _, e2⟩ := Rep.inv_ptr hv; subst e1; subst e2
      exact ⟨⟨by simp [eqGuard], by simp [eqGuard]⟩, hb none _ (.inl rfl) false rfl⟩
    · have e1 := Rep.inv_nilp hu; obtain ⟨b, off, vs, e2, _⟩ := Rep.inv_cptr hv; subst e1; subst e2
      exact ⟨⟨by simp [eqGuard], by simp [eqGuard]⟩, hb none _ (.inl rfl) false rfl⟩
    · have e1 := Rep.inv_nilp hv; obtain ⟨b, _, e2⟩ := Rep.inv_ptr hu; subst e1; subst e2
      exact ⟨⟨by simp [eqGuard], by simp [eqGuard]⟩, hb _ none (.inr rfl) false rfl⟩
    · have e1 := Rep.inv_nilp hv; obtain ⟨b, off, vs, e2, _⟩ := Rep.inv_cptr hu; subst e1; subst e2
      exact ⟨⟨by simp [eqGuard], by simp [eqGuard]⟩, hb _ none (.inr rfl) false rfl⟩
  · rename_i p1 p2 p3 hu'
    simp at hk; subst hk
    simp only [eqD] at he
    unfold eqFn at he
    split at he <;> simp at he <;> subst he
    · have e1 := Rep.inv_nilf hu; have e2 := Rep.inv_nilf hv; subst e1; subst e2
      exact ⟨⟨by simp [eqGuard], by simp [eqGuard]⟩, eql_of rfl rfl (eqIn_fn 9999 hu' w).1⟩
    · have e1 := Rep.inv_nilf hu; obtain ⟨vs, us, e2, _⟩ := Rep.inv_fn hv; subst e1; subst e2
      exact ⟨⟨by simp [eqGuard], by simp [eqGuard]⟩, eql_of rfl rfl ((eqIn_fn 9999 hu' w).2.1 _ _ _)⟩
    · have e1 := Rep.inv_nilf hv; obtain ⟨vs, us, e2, _⟩ := Rep.inv_fn hu; subst e1; subst e2
      exact ⟨⟨by simp [eqGuard], by simp [eqGuard]⟩, eql_of rfl rfl ((eqIn_fn 9999 hu' w).2.2 _ _ _)⟩
  · rename_i ms hu'
    split at hk
    · rename_i hc
      simp at hk; subst hk
      simp only [eqD] at he
      unfold eqIf at he
      split at he <;> simp at he <;> subst he
      · have e1 := Rep.inv_nili hu; have e2 := Rep.inv_nili hv; subst e1; subst e2
        have hg : ∀ op, (eqGuard op t x y .nilIface .nilIface).run P w = .ok () w := by
          intro op
          have hc' : isConstO x = true ∨ isConstO y = true := by simpa using hc
          cases op <;> simp only [eqGuard] <;> first
            | rfl
            | (cases x <;> cases y <;> simp_all [isConstO])
        exact ⟨⟨hg _, hg _⟩, eql_of rfl rfl (eqIn_if 9999 hu' w).1⟩
      · have e1 := Rep.inv_nili hu; obtain ⟨q, e2, _⟩ := Rep.inv_iface hv; subst e1; subst e2
        exact ⟨⟨by simp [eqGuard], by simp [eqGuard]⟩, eql_of rfl rfl ((eqIn_if 9999 hu' w).2.1 _ _)⟩
      · have e1 := Rep.inv_nili hv; obtain ⟨q, e2, _⟩ := Rep.inv_iface hu; subst e1; subst e2
        exact ⟨⟨by simp [eqGuard], by simp [eqGuard]⟩, eql_of rfl rfl ((eqIn_if 9999 hu' w).2.2 _ _)⟩
    · simp at hk
  · rename_i fs hu'
    split at hk
    · rename_i ls hls
      split at hk <;> simp at hk
      rename_i hc
      subst hk
      simp only [eqD] at he
      unfold eqAgg at he
      split at he
      · rename_i as bs
        obtain ⟨vs, e1, h1, _⟩ := Rep.inv_agg hu
        obtain ⟨us, e2, h2, _⟩ := Rep.inv_agg hv
        subst e1; subst e2
        have hr := (leaves_run 10 9990 t ls hls vs us as bs r h1 h2 he w).1 (by simp [isAggT, hu'])
        exact ⟨⟨run_eqGuard_agg w .eql t x y _ _ hc.2, run_eqGuard_agg w .neq t x y _ _ hc.2⟩, by rw [run_eql_struct, hr]; rfl, by rw [run_neq_struct, hr]; rfl⟩
      · simp at he
    · simp at hk

theorem does_eq {neg : Bool} {kd : EqK} {op : BinOp} {t u tx ty : TypeId} {x y : Operand} {x' y' : Opnd} (ho : o.op = .binOp op t x y u) (hop : op = if neg then .neq else .eql) (hk : eqKOf P t x y = some kd)
    (hx : opnd P tx x = some x') (hy : opnd P ty y = some y')
    (hs : ∀ s ∈ (IOp.eq neg kd x' y').slots, Val k δ st B T (a.tmps.getD s undef) (st.σ s)) {r : Bool} (he : eqD kd (ev st.σ x') (ev st.σ y') = some r) :
    Does P pol a o δ j k st B T (.bool (neg != r)) st := by
  have vx := opnd_val (a := a) hx fun s h => hs s (by simp [IOp.slots, h])
  have vy := opnd_val (a := a) hy fun s h => hs s (by simp [IOp.slots, h])
  obtain ⟨⟨g1, g2⟩, r1, r2⟩ := eq_run hk vx.rep vy.rep he k.w
  refine .quiet L (v := .bool (neg != r)) ?_ (.plain (.bool _) (by simp))
  subst hop
  cases neg
  · simp [execOp, ho, g1, r1]
  · simp [execOp, ho, g2, r2]
end
end Go.Mia
namespace Go.Mia
open Go

/-- an optional bound -/
def NatV (v : Option Value) (dflt n : Nat) : Prop := (v = none ∧ n = dflt) ∨ ∃ kd z, v = some (.int kd z) ∧ 0 ≤ z ∧ z.toNat = n

theorem run_bounds {P : Program} {isSlice : Bool} {len cap l h m : Nat} {lo hi mx : Option Value} (hm : NatV mx cap m) (hh : NatV hi len h) (hl : NatV lo 0 l) (h1 : l ≤ h) (h2 : h ≤ m) (h3 : m ≤ cap) (hmx : mx ≠ none → hi ≠ none) (w : World) :
    (Instr.sliceBounds isSlice len cap lo hi mx).run P w = .ok (l, h, m) w := by
  have bd : ∀ (kd : IntKind) (z : Int) (n y : Nat) (c : BoundsCode), 0 ≤ z → z.toNat = n → n ≤ y → (Instr.sliceBound (.int kd z) y c).run P w = .ok n w := by
    intro kd z n y c h0 hn hy
    have : 0 ≤ z ∧ z ≤ (y : Int) := by omega
    simp [Instr.sliceBound, asIntOf, this, hn]
  rcases hm with ⟨rfl, rfl⟩ | ⟨km, zm, rfl, hm0, hmn⟩
  · rcases hh with ⟨rfl, rfl⟩ | ⟨kh, zh, rfl, hh0, hhn⟩
    · rcases hl with ⟨rfl, rfl⟩ | ⟨kl, zl, rfl, hl0, hln⟩
      · simp [Instr.sliceBounds]
      · simp [Instr.sliceBounds, bd kl zl l h _ hl0 hln h1]
    · rcases hl with ⟨rfl, rfl⟩ | ⟨kl, zl, rfl, hl0, hln⟩
      · simp [Instr.sliceBounds, bd kh zh h m _ hh0 hhn h2]
      · simp [Instr.sliceBounds, bd kh zh h m _ hh0 hhn h2, bd kl zl l h _ hl0 hln h1]
  · rcases hh with ⟨rfl, rfl⟩ | ⟨kh, zh, rfl, hh0, hhn⟩
    · exact absurd rfl (hmx (by simp))
    · rcases hl with ⟨rfl, rfl⟩ | ⟨kl, zl, rfl, hl0, hln⟩
      · simp [Instr.sliceBounds, bd kh zh h m _ hh0 hhn h2, bd km zm m cap _ hm0 hmn h3]
      · simp [Instr.sliceBounds, bd kh zh h m _ hh0 hhn h2, bd km zm m cap _ hm0 hmn h3, bd kl zl l h _ hl0 hln h1]

theorem extract_mk (L : List UInt8) (l h : Nat) : (ByteArray.mk L.toArray).extract l h = ByteArray.mk ((L.take h).drop l).toArray := by
  apply ByteArray.ext
  simp only [ByteArray.data_extract]
  apply Array.ext'
  simp [List.extract_eq_take_drop, List.drop_take]

theorem flat_drop {s : Nat} : ∀ {xs : List D} (l : Nat), (∀ x ∈ xs, x.cells.length = s) → (xs.drop l).flatMap D.cells = (xs.flatMap D.cells).drop (l * s)
  | [], l, _ => by simp
  | x :: xs, 0, _ => by simp
  | x :: xs, l + 1, h => by
    have hx := h x (by simp)
    have e0 : x.cells.drop (l * s + s) = [] := List.drop_eq_nil_of_le (by rw [hx]; exact Nat.le_add_left _ _)
    rw [List.drop_succ_cons, flat_drop l fun y hy => h y (by simp [hy]), List.flatMap_cons, Nat.add_mul, Nat.one_mul, List.drop_append, e0, List.nil_append, hx, Nat.add_sub_cancel]
theorem flat_take {s : Nat} : ∀ {xs : List D} (h : Nat), (∀ x ∈ xs, x.cells.length = s) → (xs.take h).flatMap D.cells = (xs.flatMap D.cells).take (h * s)
  | [], h, _ => by simp
  | x :: xs, 0, _ => by simp
  | x :: xs, h + 1, hh => by
    have hx := hh x (by simp)
    have e0 : x.cells.take (h * s + s) = x.cells := List.take_of_length_le (by rw [hx]; exact Nat.le_add_left _ _)
    rw [List.take_succ_cons, List.flatMap_cons, flat_take h fun y hy => hh y (by simp [hy]), List.flatMap_cons, Nat.add_mul, Nat.one_mul, List.take_append, e0, hx, Nat.add_sub_cancel]

theorem cutTk_cases (tk : Tk) (l h n : Nat) (mx : Option Nat) : (cutTk tk l h n mx = tk ∧ mx ≠ some h ∧ h = n ∧ l < h) ∨ cutTk tk l h n mx = .full ∨ cutTk tk l h n mx = .none := by
  by_cases h1 : mx = some h
  · exact .inr (.inl (by simp [cutTk, h1]))
  · by_cases h2 : h = n
    · by_cases h3 : l < h
      · exact .inl ⟨by subst h2; simp [cutTk, h1, h3], h1, h2, h3⟩
      · by_cases h4 : tk = .full
        · exact .inr (.inl (by subst h2; simp [cutTk, h1, h3, h4]))
        · exact .inr (.inr (by subst h2; simp [cutTk, h1, h3, h4]))
    · exact .inr (.inr (by simp [cutTk, h1, h2]))

section
variable {P : Program} {pol : Pol} {k : K} {δ j : Nat} {st : St} {B T : Nat → Prop} {a : Act} {o : Oper} (L : Loc P pol k δ j st B T)
include L

omit L in
theorem optOpnd_nat {x : Option Operand} {x' : Option Opnd} (hx : optOpnd P x = some x') (hs : ∀ s ∈ optSlots x', Val k δ st B T (a.tmps.getD s undef) (st.σ s)) {n : Nat} (dflt : Nat) (hn : optNat st.σ dflt x' = some n) :
    NatV (x.map a.eval) dflt n := by
  unfold optOpnd at hx
  split at hx
  · simp at hx; subst hx
    simp [optNat] at hn
    exact .inl ⟨rfl, hn.symm⟩
  · rename_i y
    simp only [Option.map_eq_some_iff] at hx
    obtain ⟨y', hy, rfl⟩ := hx
    simp only [optNat] at hn
    obtain ⟨kd, z, e, h0, hz⟩ := asNat_some hn
    have v := opnd_val (a := a) hy fun s h => hs s (by simpa [optSlots] using h)
    have r := Rep.inv_int (e ▸ v.rep)
    exact .inr ⟨kd, z, by simp [r], h0, hz⟩

omit L in
theorem optOpnd_nat' {y : Option Operand} {y' : Option Opnd} (hy : optOpnd P y = some y') (hs : ∀ s ∈ optSlots y', Val k δ st B T (a.tmps.getD s undef) (st.σ s)) {n : Option Nat} (dflt : Nat) (hn : optNat' st.σ y' = some n) :
    NatV (y.map a.eval) dflt (n.getD dflt) ∧ (n = none ↔ y = none) := by
  cases y' with
  | none =>
    simp [optNat'] at hn; subst hn
    unfold optOpnd at hy; split at hy
    · exact ⟨.inl ⟨rfl, rfl⟩, by simp⟩
    · simp at hy
  | some q =>
    simp only [optNat', Option.map_eq_some_iff] at hn
    obtain ⟨p, hp, rfl⟩ := hn
    have := optOpnd_nat (a := a) hy hs dflt (n := p) (by simpa [optNat] using hp)
    refine ⟨by simpa using this, ?_⟩
    unfold optOpnd at hy; split at hy
    · simp at hy
    · simp

theorem does_slice {s : Nat} {t tx : TypeId} {x : Operand} {lo hi mx : Option Operand} {x' : Opnd} {lo' hi' mx' : Option Opnd} (ho : o.op = .slice t x lo hi mx)
    (ht : (P.underlying t = some .string ∧ s = 0) ∨ (s ≠ 0 ∧ ∃ e, P.underlying t = some (.slice e) ∧ sizeT P e = some s))
    (hx : opnd P tx x = some x') (hlo : optOpnd P lo = some lo') (hhi : optOpnd P hi = some hi') (hmx : optOpnd P mx = some mx') (hmh : mx ≠ none → hi ≠ none)
    (hs : ∀ s' ∈ (IOp.slice s x' lo' hi' mx').slots, Val k δ st B T (a.tmps.getD s' undef) (st.σ s'))
    {l : Nat} {h m : Option Nat} (hl : optNat st.σ 0 lo' = some l) (hh : optNat' st.σ hi' = some h) (hm : optNat' st.σ mx' = some m) {d : D} (he : sliceD s (ev st.σ x') l h m = some d) : Does P pol a o δ j k st B T d st := by
  have vx := opnd_val (a := a) hx fun s h => hs s (by simp [IOp.slots, h])
  have nl := optOpnd_nat (a := a) hlo (fun s h => hs s (by simp [IOp.slots, h])) 0 hl
  have nh := fun dflt => optOpnd_nat' (a := a) hhi (fun s h => hs s (by simp [IOp.slots, h])) dflt hh
  have nm := fun dflt => optOpnd_nat' (a := a) hmx (fun s h => hs s (by simp [IOp.slots, h])) dflt hm
  have hmh' : mx.map a.eval ≠ none → hi.map a.eval ≠ none := by
    intro h1 h2
    exact hmh (by simpa using h1) (by simpa using h2)
  have ex : execOp a.eval o = (do let v ← Instr.sliceAt t (a.eval x) (lo.map a.eval) (hi.map a.eval) (mx.map a.eval); pure (Next.value v)) := by simp [execOp, ho]
  -- a slice's run
  have run : ∀ (e : TypeId) (ad : Option Addr) (len cap h0 m0 : Nat), P.underlying t = some (.slice e) → sizeT P e = some s → a.eval x = .slice ad len cap → NatV (hi.map a.eval) len h0 → NatV (mx.map a.eval) cap m0 → l ≤ h0 → h0 ≤ m0 → m0 ≤ cap →
      (execOp a.eval o).run P k.w = .ok (.value (.slice (if m0 = l then ad else ad.map (·.add (l * s))) (h0 - l) (m0 - l))) k.w := by
    intro e ad len cap h0 m0 hu hz r n1 n2 a1 a2 a3
    have hb := run_bounds (P := P) (isSlice := true) n2 n1 nl a1 a2 a3 hmh' k.w
    rw [ex, r]
    simp [Instr.sliceAt, run_underlying hu, Instr.slice, hb, run_size hz]
  unfold sliceD at he
  split at he
  · rename_i l1 e1
    split at he <;> simp at he
    subst he; rename_i hc
    obtain ⟨hs0, hm0, hc1, hc2⟩ := hc
    subst hm0
    have hmx0 : mx = none := ((nm 0).2.1 rfl)
    subst hmx0
    have r := Rep.inv_str (e1 ▸ vx.rep)
    have hsz : (ByteArray.mk l1.toArray).size = l1.length := by simp only [ByteArray.size, List.size_toArray]
    refine .quiet L (v := .string ⟨((l1.take (h.getD l1.length)).drop l).toArray⟩) ?_ (.plain (.str _) (by simp))
    rcases ht with ⟨hu, _⟩ | ⟨hne, _⟩
    · have hb := run_bounds (P := P) (isSlice := false) (len := l1.length) (cap := l1.length) (mx := none) (.inl ⟨rfl, rfl⟩) (nh l1.length).1 nl hc1 hc2 (Nat.le_refl _) (by simp) k.w
      rw [ex, r]
      simp [Instr.sliceAt, run_underlying hu, Instr.slice, hsz, hb, extract_mk]
    · exact absurd hs0 hne
  · rename_i tk s0 xs e1
    split at he <;> simp at he
    subst he; rename_i hc
    obtain ⟨hsne, hst, hc1, hc2, hc3, hc4⟩ := hc
    obtain ⟨ad, cap, b, off, vs, r, hle, hf, hel, had, hcs, hr⟩ := Rep.inv_slice (e1 ▸ vx.rep)
    obtain ⟨e, hu, hz⟩ : ∃ e, P.underlying t = some (.slice e) ∧ sizeT P e = some s := by
      rcases ht with ⟨_, h0⟩ | ⟨_, h⟩
      · exact absurd h0 hsne
      · exact h
    generalize hh0 : h.getD xs.length = h0 at *
    have n1 := (nh xs.length).1
    rw [hh0] at n1
    -- the room that is left
    obtain ⟨m0, n2, hm1, hm2, hm3⟩ : ∃ m0, NatV (mx.map a.eval) cap m0 ∧ h0 ≤ m0 ∧ m0 ≤ cap ∧ ((m = none ∧ m0 = cap) ∨ (m = some m0 ∧ m0 ≤ xs.length)) := by
      cases m with
      | none => exact ⟨cap, (nm cap).1, by omega, Nat.le_refl _, .inl ⟨rfl, rfl⟩⟩
      | some m0 => simp at hc3 hc4; exact ⟨m0, (nm cap).1, hc3, by omega, .inr ⟨rfl, hc4⟩⟩
    have hrun := run e ad xs.length cap h0 m0 hu hz r n1 n2 hc1 hm1 hm2
    have hall : ∀ x ∈ xs, x.cells.length = s0 := fun x hx => (elemsOk_mem hel x hx).1
    have hlen : ((xs.take h0).drop l).length = h0 - l := by simp; omega
    have hflat : ((xs.take h0).drop l).flatMap D.cells = ((xs.flatMap D.cells).take (h0 * s0)).drop (l * s0) := by
      rw [flat_drop l fun y hy => hall y (List.mem_of_mem_take hy), flat_take h0 hall]
    have hrep : Rep k (.slice (if m0 = l then ad else ad.map (·.add (l * s))) (h0 - l) (m0 - l)) (.slice (cutTk tk l h0 xs.length m) s0 ((xs.take h0).drop l)) := by
      refine .slice b (off + l * s0) (fun j => vs (l * s0 + j)) hlen.symm (by omega) ?_ ?_ ?_ ?_ ?_
      · intro hfull
        by_cases hmh : m = some h0
        · rcases hm3 with ⟨h1, _⟩ | ⟨h1, _⟩
          · rw [h1] at hmh; cases hmh
          · rw [h1] at hmh; injection hmh with hmh; omega
        · simp only [cutTk, if_neg hmh] at hfull
          by_cases hh : h0 = xs.length
          · rw [if_pos hh] at hfull
            have hfl : tk = .full := by
              by_cases hlt : l < h0
              · rw [if_pos hlt] at hfull; exact hfull
              · rw [if_neg hlt] at hfull
                by_cases ht : tk = .full
                · exact ht
                · rw [if_neg ht] at hfull; cases hfull
            have := hf hfl
            rcases hm3 with ⟨_, h2⟩ | ⟨h1, h2⟩
            · omega
            · exact absurd (show m = some h0 by rw [h1]; congr 1; omega) hmh
          · rw [if_neg hh] at hfull; cases hfull
      · exact elemsOk_of fun x hx => elemsOk_mem hel x (List.mem_of_mem_take (List.mem_of_mem_drop hx))
      · intro hpos
        have hne : m0 ≠ l := by omega
        have hx : xs ≠ [] := by intro e; simp [e] at hc2; omega
        have hs0 : s0 = s := by rcases hst with h | h; exact h; exact absurd h hx
        rw [if_neg hne, had (by cases xs <;> simp_all), hs0]
        simp [addr_add]
      · intro j hj
        rw [hflat] at hj
        simp only [List.length_drop, List.length_take] at hj
        have := hcs (l * s0 + j) (by omega)
        rwa [← Nat.add_assoc] at this
      · intro j d hd
        rw [hflat] at hd
        have hj : j < h0 * s0 - l * s0 := by
          rcases Nat.lt_or_ge j (h0 * s0 - l * s0) with h | h
          · exact h
          · rw [List.getElem?_eq_none (by simp; omega)] at hd; cases hd
        exact hr (l * s0 + j) d (by
          rw [List.getElem?_drop, List.getElem?_take, if_pos (by omega)] at hd
          exact hd)
    refine .quiet L hrun ⟨hrep, ?_, ?_⟩
    · -- the right
      have vtk := vx.tk
      rw [e1, r] at vtk
      rcases cutTk_cases tk l h0 xs.length m with ⟨ec, hmne, hh, hlt⟩ | ec | ec
      · rw [ec]
        have hm0 : m = none ∧ m0 = cap := by
          rcases hm3 with h | ⟨h1, h2⟩
          · exact h
          · exact absurd (show m = some h0 by rw [h1]; congr 1; omega) hmne
        have hx : xs ≠ [] := by intro e; simp [e] at hh; omega
        have hs0 : s0 = s := by rcases hst with h | h; exact h; exact absurd h hx
        have held : ∀ hd, HeldAt k hd ad xs.length cap s0 → HeldAt k hd (if m0 = l then ad else ad.map (·.add (l * s))) (h0 - l) (m0 - l) s0 := by
          intro hd H
          rcases H with ⟨b', o', h1, f, ha, ho', cs', e', hb', hsz⟩ | ⟨h1, h2⟩
          · refine .inl ⟨b', o', h1, f + l * s0, ?_, ?_, cs', e', hb', ?_⟩
            · rw [if_neg (by omega), ha, ← hs0]; simp [addr_add]
            · rw [ho', ← hh, Nat.sub_mul]
              have : l * s0 ≤ h0 * s0 := Nat.mul_le_mul_right _ (by omega)
              omega
            · rw [hm0.2, Nat.sub_mul]
              have : l * s0 ≤ cap * s0 := Nat.mul_le_mul_right _ (by omega)
              omega
          · exact .inr ⟨by omega, h2⟩
        cases tk with
        | none => trivial
        | full => trivial
        | own => exact vtk.elim
        | tok t => exact fun hl => held _ (vtk hl)
        | lent d i off st' => exact ⟨vtk.1, fun hl => held _ (vtk.2 hl)⟩
      · rw [ec]; trivial
      · rw [ec]; trivial
    · have vn := vx.name
      rw [e1] at vn
      rcases cutTk_cases tk l h0 xs.length m with ⟨ec, _⟩ | ec | ec
      · rw [ec]; cases tk <;> exact vn
      · rw [ec]; trivial
      · rw [ec]; trivial
  · rename_i d1 i1 off1 len1 s1 c1 e1
    split at he <;> simp at he
    subst he; rename_i hc
    obtain ⟨hsne, hst, hc1, hc2, hc3⟩ := hc
    subst hst
    obtain ⟨ad, cap, r, hle, hcc, had⟩ := Rep.inv_vsl (e1 ▸ vx.rep)
    obtain ⟨e, hu, hz⟩ : ∃ e, P.underlying t = some (.slice e) ∧ sizeT P e = some s1 := by
      rcases ht with ⟨_, h0⟩ | ⟨_, h⟩
      · exact absurd h0 hsne
      · exact h
    have n1 := (nh len1).1
    obtain ⟨m0, n2, hm1, hm2, hm3⟩ : ∃ m0, NatV (mx.map a.eval) cap m0 ∧ m.getD c1 ≤ m0 ∧ m0 ≤ cap ∧ h.getD len1 ≤ m0 := by
      cases m with
      | none => simp at hc2; exact ⟨cap, (nm cap).1, by simpa using hcc, Nat.le_refl _, by omega⟩
      | some m0 => simp at hc2 hc3; exact ⟨m0, (nm cap).1, by simp, by omega, hc2⟩
    have hrun := run e ad len1 cap _ m0 hu hz r n1 n2 hc1 hm3 hm2
    refine .quiet L hrun (.plain (.vsl (by omega) (by omega) ?_) (by simp))
    intro hpos
    obtain ⟨b, hb, ha⟩ := had (by omega)
    exact ⟨b, hb, by rw [if_neg (by omega), ha]; simp [addr_add]⟩
  · simp at he
end
end Go.Mia
/- New blocks, and cells that are written. -/
namespace Go.Mia
open Go

theorem cell_lt {w : World} {b off : Nat} {v : Value} (h : w.cell? ⟨b, off, none⟩ = some v) : b < w.heap.size := by
  unfold World.cell? at h
  simp only at h
  cases hb : w.heap[b]? with
  | none => simp [hb] at h
  | some o => exact (Array.getElem?_eq_some_iff.1 hb).1

/-- what is told of a step, to know that it is one -/
structure Step (δ low : Nat) (k k' : K) : Prop where
  size : k.w.heap.size ≤ k'.w.heap.size
  os : k'.w.os = k.w.os
  tape : k'.w.tape = k.w.tape
  output : k'.w.output = k.w.output
  β : ∀ d i b, k.β d i = some b → k'.β d i = some b
  βn : ∀ d i b, k'.β d i = some b → k.β d i = some b ∨ (k.w.heap.size ≤ b ∧ δ ≤ d)
  sp : ∀ h b o, k'.sp h = some (b, o) → k.w.heap.size ≤ b ∨ ∃ h0 o0, k.sp h0 = some (b, o0) ∧ o0 ≤ o
  cell : ∀ b off v, k.w.cell? ⟨b, off, none⟩ = some v → (∀ d i, k.β d i ≠ some b) → (∀ h o, k.sp h = some (b, o) → off < o) → k'.w.cell? ⟨b, off, none⟩ = some v
  other : ∀ b, b < k.w.heap.size → (∀ d i, k.β d i ≠ some b) → (∀ h o, k.sp h ≠ some (b, o)) → k'.w.heap[b]? = k.w.heap[b]?
  boxes : ∀ d i b, d < low → k.β d i = some b → k'.w.heap[b]? = k.w.heap[b]?
  cells : ∀ d i off, d < low → k'.sp (.cell d i off) = k.sp (.cell d i off)
  toks : ∀ d t, d < δ → k'.sp (.tok d t) = k.sp (.tok d t)
  shape : ∀ (b : Nat) (cs : Array Value) (e : TypeId), k.w.heap[b]? = some (Go.Obj.cells cs e (0, 0)) → ∃ cs' : Array Value, k'.w.heap[b]? = some (Go.Obj.cells cs' e (0, 0)) ∧ cs'.size = cs.size

theorem Step.ext {δ low : Nat} {k k' : K} (h : Step δ low k k') : Ext δ low k k' where
  later := {
    β := h.β
    const := fun b off v hc => {
      cell := h.cell b off v hc.cell hc.box hc.sp
      box := fun d i hb => by
        rcases h.βn d i b hb with h1 | ⟨h1, _⟩
        · exact hc.box d i h1
        · have := cell_lt hc.cell; omega
      sp := fun hd o ho => by
        rcases h.sp hd b o ho with h1 | ⟨h0, o0, h1, h2⟩
        · have := cell_lt hc.cell; omega
        · have := hc.sp h0 o0 h1; omega } }
  size := h.size
  os := h.os
  tape := h.tape
  output := h.output
  other := h.other
  nobox := fun b hb h1 h2 => ⟨fun d i hbi => by
      rcases h.βn d i b hbi with h3 | ⟨h3, _⟩
      · exact h1 d i h3
      · omega, fun hd o ho => by
      rcases h.sp hd b o ho with h3 | ⟨h0, o0, h3, _⟩
      · omega
      · exact h2 h0 o0 h3⟩
  boxes := h.boxes
  cells := h.cells
  toks := h.toks
  lv := fun d i hd => by
    cases hb : k'.β d i with
    | none => cases hb' : k.β d i with
      | none => rfl
      | some b => rw [h.β d i b hb'] at hb; cases hb
    | some b => rcases h.βn d i b hb with h3 | ⟨_, h3⟩
                · exact h3.symm
                · omega
  shape := h.shape

/-! ### A block more -/
def push (w : World) (o : Go.Obj) : World := { w with heap := w.heap.push o }
theorem push_old (w : World) (o : Go.Obj) {b : Nat} (h : b < w.heap.size) : (push w o).heap[b]? = w.heap[b]? := by
  show (w.heap.push o)[b]? = _
  rw [Array.getElem?_push, if_neg (Nat.ne_of_lt h)]
theorem push_new (w : World) (o : Go.Obj) : (push w o).heap[w.heap.size]? = some o := by
  show (w.heap.push o)[w.heap.size]? = _
  rw [Array.getElem?_push, if_pos rfl]
theorem push_size (w : World) (o : Go.Obj) : (push w o).heap.size = w.heap.size + 1 := by
  show (w.heap.push o).size = _
  simp
theorem push_cell (w : World) (o : Go.Obj) {b off : Nat} (h : b < w.heap.size) : (push w o).cell? ⟨b, off, none⟩ = w.cell? ⟨b, off, none⟩ := by
  simp [World.cell?, push_old w o h]
theorem push_cell_new (w : World) (cs : Array Value) (e : TypeId) (fr : Nat × Nat) (off : Nat) : (push w (.cells cs e fr)).cell? ⟨w.heap.size, off, none⟩ = cs[off]? := by
  simp [World.cell?, push_new]

theorem push_step {δ low : Nat} {k : K} {o : Go.Obj} {w : World} (hw : w.heap = k.w.heap ∧ w.os = k.w.os ∧ w.tape = k.w.tape ∧ w.output = k.w.output) {β' : Nat → Nat → Option Nat} {sp' : Hold → Option (Nat × Nat)}
    (hβ : ∀ d i b, k.β d i = some b → β' d i = some b) (hβn : ∀ d i b, β' d i = some b → k.β d i = some b ∨ (b = k.w.heap.size ∧ δ ≤ d))
    (hsp : ∀ h b o, sp' h = some (b, o) → b = k.w.heap.size ∨ ∃ h0 o0, k.sp h0 = some (b, o0) ∧ o0 ≤ o)
    (hcells : ∀ d i off, d < low → sp' (.cell d i off) = k.sp (.cell d i off)) (htoks : ∀ d t, d < δ → sp' (.tok d t) = k.sp (.tok d t))
    (hlt : ∀ d i b, k.β d i = some b → b < k.w.heap.size) : Step δ low k ⟨push w o, β', sp'⟩ where
  size := by rw [push_size, hw.1]; exact Nat.le_succ _
  os := hw.2.1
  tape := hw.2.2.1
  output := hw.2.2.2
  β := hβ
  βn := fun d i b h => (hβn d i b h).imp id fun ⟨e, h⟩ => ⟨by omega, h⟩
  sp := fun h b o ho => (hsp h b o ho).imp (fun e => by omega) id
  cell := fun b off v h _ _ => by
    have hb := cell_lt h
    rw [push_cell _ _ (by rw [hw.1]; exact hb)]
    simpa [World.cell?, hw.1] using h
  other := fun b hb _ _ => by rw [push_old _ _ (by rw [hw.1]; exact hb), hw.1]
  boxes := fun d i b _ hb => by rw [push_old _ _ (by rw [hw.1]; exact hlt d i b hb), hw.1]
  cells := hcells
  toks := htoks
  shape := fun b cs e h => ⟨cs, by rw [push_old _ _ (by rw [hw.1]; exact (Array.getElem?_eq_some_iff.1 h).1), hw.1]; exact h, rfl⟩

/-! ### Cells that are written -/
theorem run_storeCells_row (P : Program) (g o : Nat) (t : TypeId) (fr : Nat × Nat) : ∀ (vs : List Value) (i : Nat) (cur : Array Value) (w : World), w.heap[g]? = some (.cells cur t fr) → (∀ j, j < cur.size → ¬ (fr.1 ≤ j ∧ j < fr.2)) →
    o + i + vs.length ≤ cur.size → (∀ v ∈ vs, v.oneCell' = true) →
    (storeCells ⟨g, o, none⟩ vs i).run P w = .ok () (w.setRow g (cur.toList.take (o + i) ++ vs ++ cur.toList.drop (o + i + vs.length)).toArray)
  | [], i, cur, w, hg, _, _, _ => by
    simp only [storeCells, List.append_nil, List.length_nil, Nat.add_zero, List.take_append_drop, Array.toArray_toList]
    rw [setRow_self w g cur t fr hg]
    rfl
  | v :: rest, i, cur, w, hg, hz, hl, h1 => by
    have hi : o + i < cur.size := by simp at hl; omega
    have hcell : w.cell? ⟨g, o + i, none⟩ = some cur[o + i] := by simp [World.cell?, hg, hi]
    have hfro : w.frozen? ⟨g, o + i, none⟩ = false := by
      have := hz (o + i) hi
      simp only [World.frozen?, hg]
      simpa using this
    have hst : (store ((⟨g, o, none⟩ : Addr).add i) v).run P w = .ok () (w.setRow g (cur.setIfInBounds (o + i) v)) := by
      rw [addr_add, run_store P w _ v _ (h1 v (by simp)), hcell]
      simp [hfro, setCell_eq_setRow w g (o + i) cur t fr v hg]
    have ih := run_storeCells_row P g o t fr rest (i + 1) (cur.setIfInBounds (o + i) v) (w.setRow g (cur.setIfInBounds (o + i) v)) (setRow_heap w g cur _ t _ hg) (by simpa using hz) (by simp at hl ⊢; omega) (fun x hx => h1 x (by simp [hx]))
    simp only [storeCells, Sem.run_bind, hst, Result.andThen_ok, ih, setRow_setRow]
    congr 3
    have e := list_seg_step cur.toList (o + i) v rest (by simp at hl ⊢; omega)
    simpa [Array.toList_setIfInBounds, Nat.add_assoc] using e

/-- cells of one block are written from o on: the block is a box's, or the region from o on is somebody's -/
theorem setRow_step {δ low : Nat} {k : K} {g o : Nat} {cur cs : Array Value} {t : TypeId} {fr : Nat × Nat} (hg : k.w.heap[g]? = some (.cells cur t fr)) (hs : cs.size = cur.size)
    (hbelow : ∀ j, j < o → cs[j]? = cur[j]?) (hown : (∃ d i, k.β d i = some g) ∨ ∃ h o', k.sp h = some (g, o') ∧ o' ≤ o)
    (hlow : ∀ d i, k.β d i = some g → low ≤ d) {sp' : Hold → Option (Nat × Nat)}
    (hsp : ∀ h b o, sp' h = some (b, o) → ∃ h0 o0, k.sp h0 = some (b, o0) ∧ o0 ≤ o)
    (hcells : ∀ d i off, d < low → sp' (.cell d i off) = k.sp (.cell d i off)) (htoks : ∀ d t, d < δ → sp' (.tok d t) = k.sp (.tok d t)) :
    Step δ low k ⟨k.w.setRow g cs, k.β, sp'⟩ where
  size := by simp
  os := rfl
  tape := rfl
  output := rfl
  β := fun _ _ _ h => h
  βn := fun _ _ _ h => .inl h
  sp := fun h b o ho => .inr (hsp h b o ho)
  cell := fun b off v h h1 h2 => by
    by_cases e : b = g
    · subst e
      rcases hown with ⟨d, i, hb⟩ | ⟨hd, o', ho, hle⟩
      · exact absurd hb (h1 d i)
      · have := h2 hd o' ho
        rw [cell_setRow_same k.w b off cur cs t fr hg, hbelow off (by omega)]
        simpa [World.cell?, hg] using h
    · show (k.w.setRow g cs).cell? _ = _
      rw [cell_setRow_other k.w g cs _ e]; exact h
  other := fun b hb h1 h2 => by
    refine setRow_other k.w g b cs fun e => ?_
    subst e
    rcases hown with ⟨d, i, hb⟩ | ⟨hd, o', ho, _⟩
    · exact h1 d i hb
    · exact h2 hd o' ho
  boxes := fun d i b hd hb => setRow_other k.w g b cs fun e => by subst e; have := hlow d i hb; omega
  cells := hcells
  toks := htoks
  shape := fun b cs0 e h => by
    by_cases eb : b = g
    · subst eb
      rw [hg] at h
      injection h with h; injection h with h1 h2 h3
      subst h1; subst h2; subst h3
      exact ⟨cs, setRow_heap k.w b _ cs _ _ hg, hs⟩
    · exact ⟨cs0, (setRow_other k.w g b cs eb).trans h, rfl⟩

/-! ### Rights that move -/
/-- h1's right is h2's now -/
def moveSp (sp : Hold → Option (Nat × Nat)) (h1 h2 : Hold) : Hold → Option (Nat × Nat) :=
  fun h => if h = h2 then sp h1 else if h = h1 then none else sp h
def dropSp (sp : Hold → Option (Nat × Nat)) (h1 : Hold) : Hold → Option (Nat × Nat) := fun h => if h = h1 then none else sp h
def putSp (sp : Hold → Option (Nat × Nat)) (h1 : Hold) (r : Nat × Nat) : Hold → Option (Nat × Nat) := fun h => if h = h1 then some r else sp h
theorem moveSp_some {sp : Hold → Option (Nat × Nat)} {h1 h2 h : Hold} {r : Nat × Nat} (h' : moveSp sp h1 h2 h = some r) : ∃ h0, sp h0 = some r := by
  unfold moveSp at h'; split at h'
  · exact ⟨h1, h'⟩
  · split at h'
    · cases h'
    · exact ⟨h, h'⟩
theorem dropSp_some {sp : Hold → Option (Nat × Nat)} {h1 h : Hold} {r : Nat × Nat} (h' : dropSp sp h1 h = some r) : h ≠ h1 ∧ sp h = some r := by
  unfold dropSp at h'; split at h'
  · cases h'
  · exact ⟨‹_›, h'⟩

theorem move_spinj {k : K} (g : Good k) {h1 h2 : Hold} : ∀ h h' b o o', moveSp k.sp h1 h2 h = some (b, o) → moveSp k.sp h1 h2 h' = some (b, o') → h = h' := by
  intro h h' b o o' ho ho'
  unfold moveSp at ho ho'
  split at ho <;> split at ho'
  · simp_all
  · split at ho'
    · cases ho'
    · have := g.spinj h1 h' b o o' ho ho'; simp_all
  · split at ho
    · cases ho
    · have := g.spinj h h1 b o o' ho ho'; simp_all
  · split at ho
    · cases ho
    · split at ho'
      · cases ho'
      · exact g.spinj h h' b o o' ho ho'
end Go.Mia
