/- Part 0 of what the law's proof rests on: AiDefs, AiRel, AiStep, AiCompile, AiOps, AiOps2, AiOps3, AiOps4, AiOps5, AiOps6, AiOps7, AiOps8, AiOps9, AiSound, AiRun, AiFn, AiFrame, AiFrame2. Conditions: none. -/
import Derived.Orders
import Derived.KernelRfl
import Derived.Laws.AppendOwn
import Derived.Laws.Entries
import Derived.Laws.Cells
import Derived.Laws.MakeOwn
import Derived.Laws.Slices
import Derived.Laws.Strings
import Derived.Laws.Strings2
import Derived.Laws.Strings3
import Derived.Laws.StructEq
import Derived.Laws.IdiomStrings
import Derived.Laws.BytesArg
import Derived.IntWalk
set_option linter.unusedVariables false
set_option linter.unusedSimpArgs false
/- The definitions of an interpreter over abstract values: what a function's code does to cells, slices and boxes that have names of their own. -/
namespace Go.AI
open Go

/-! ### a store by numbers -/
inductive Tr (α : Type) where
  | lf
  | nd (v : Option α) (l r : Tr α)

def Tr.get {α : Type} : Tr α → Nat → Option α
  | .lf, _ => none
  | .nd v l r, n => if n = 0 then v else if n % 2 = 1 then l.get (n / 2) else r.get (n / 2 - 1)

def Tr.val {α : Type} : Tr α → Option α
  | .lf => none
  | .nd v _ _ => v
def Tr.le {α : Type} : Tr α → Tr α
  | .lf => .lf
  | .nd _ l _ => l
def Tr.ri {α : Type} : Tr α → Tr α
  | .lf => .lf
  | .nd _ _ r => r

def Tr.putF {α : Type} : Nat → Tr α → Nat → α → Tr α
  | 0, t, _, _ => t
  | f + 1, t, n, x => if n = 0 then .nd (some x) t.le t.ri else if n % 2 = 1 then .nd t.val (Tr.putF f t.le (n / 2) x) t.ri else .nd t.val t.le (Tr.putF f t.ri (n / 2 - 1) x)

def Tr.put {α : Type} (t : Tr α) (n : Nat) (x : α) : Tr α := Tr.putF (n + 1) t n x

/-! ### abstract values -/
inductive C where
  | int (k : IntKind) (n : Int)
  | bool (b : Bool)
  | str (s : List UInt8)
  | dv (xs : List (List C))
  | nils
  | sl (id gen off len : Nat)
  | ptr (id gen el off : Nat)
  | dp (el : List C) (off : Nat)
  | nilp
  | fn (f : FuncId) (caps : List C)
  | undef
  deriving Inhabited

inductive V where
  | undef
  | one (c : C)
  | agg (cs : List C)
  | tup (vs : List V)
  | lit (els : List (List C))
  | box (gen : Nat) (cs : List C)
  | vp (s gen off : Nat)
  deriving Inhabited

structure Obj where
  gen : Nat
  ty : TypeId
  sz : Nat
  live : Bool
  els : List (List C)

structure Heap where
  next : Nat
  mem : Tr Obj

def Heap.empty : Heap := { next := 0, mem := .lf }

def Heap.look (h : Heap) (id : Nat) : Option Obj :=
  match h.mem.get id with
  | some o => if o.live then some o else none
  | none => none

/-- the object at a number, if the generation is its own -/
def Heap.at (h : Heap) (id gen : Nat) : Option Obj :=
  match h.look id with
  | some o => if o.gen = gen then some o else none
  | none => none

def Heap.set (h : Heap) (id : Nat) (o : Obj) : Heap := { h with mem := h.mem.put id o }

/-- the generation that a new content at a number gets -/
def Heap.fresh (h : Heap) (id : Nat) : Nat :=
  match h.mem.get id with
  | some o => o.gen + 1
  | none => 0

def Heap.new (h : Heap) (ty sz : Nat) (els : List (List C)) : Heap := { next := h.next + 1, mem := h.mem.put h.next { gen := h.fresh h.next, ty, sz, live := true, els } }

def Heap.kill (h : Heap) (id : Nat) : Heap :=
  match h.mem.get id with
  | some o => h.set id { o with live := false }
  | none => h

def Heap.killAll (h : Heap) : List Nat → Heap
  | [] => h
  | id :: r => (h.kill id).killAll r

structure St where
  vars : Tr V
  heap : Heap
  base : Nat

/-! ### operations -/
inductive Opd where
  | loc (i : Nat)
  | var (s : Nat)
  | cst (v : V)
  | fnc (f : FuncId)
  deriving Inhabited

inductive EqTy where
  | num | bool | ptr
  deriving DecidableEq, Inhabited

inductive AOp where
  | mov (x : Opd)
  | pick (c a b : Opd)
  | boxS (k ty sz : Nat) (x : Opd)
  | boxD (ty sz : Nat) (x : Opd)
  | boxV (s ty sz : Nat) (x : Opd)
  | build (zero : List C) (parts : List (Nat × Nat × Opd))
  | lit (sz len : Nat) (zero : List C) (parts : List (Nat × Opd))
  | litD (ty sz len : Nat) (zero : List C) (parts : List (Nat × Opd))
  | load (n : Option Nat) (x : Opd)
  | store (n : Nat) (p x : Opd)
  | nilCheck (x : Opd)
  | bin (op : BinOp) (t : EqTy) (x y : Opd)
  | not (x : Opd)
  | conv (k : IntKind) (x : Opd)
  | strOf (x : Opd)
  | mkSlice (ty sz bytes : Nat) (zero : List C) (len cap : Opd)
  | slice (str : Bool) (sz : Nat) (x : Opd) (lo hi : Option Opd)
  | fieldAddr (off : Nat) (x : Opd)
  | field (off : Nat) (n : Option Nat) (x : Opd)
  | indexAddr (sz : Nat) (x i : Opd)
  | index (x i : Opd)
  | len (str : Bool) (x : Opd)
  | append (ty sz bytes : Nat) (x y : Opd)
  | copy (sz : Nat) (x y : Opd)
  | cap (x : Opd)
  | appendZ (ty sz bytes : Nat) (zero : List C) (x n : Opd)
  | bad
  | minmax (mx : Bool) (x y : Opd)
  | extract (x : Opd) (i : Nat)
  | mkfn (f : FuncId) (caps : List Opd)
  | call (f : FuncId) (args : List Opd) (heap : Bool)
  | callV (x : Opd) (args : List Opd)
  deriving Inhabited

inductive Dst where
  | no | loc | var (s : Nat)
  deriving Inhabited

structure AStmt where
  op : AOp
  dst : Dst
  guard : Option (Opd × Bool)
  /-- the earlier ones of its region that it is not ordered against -/
  un : List Nat
  deriving Inhabited

inductive ACode where
  | skip
  | region (ops : List AStmt)
  | seq (a b : ACode)
  | cond (x : Opd) (a b : ACode)
  | block (id : Nat) (c : ACode)
  | loop (c : ACode)
  | exit (id : Nat)
  | ret
  deriving Inhabited

/-- what an operation read and wrote of the heap -/
structure FP where
  rd : List Nat
  wr : List Nat
  nw : Bool
  all : Bool
  rv : List Nat
  wv : List Nat
  rg : List Nat
  wg : List Nat
  deriving Inhabited

def FP.no : FP := { rd := [], wr := [], nw := false, all := false, rv := [], wv := [], rg := [], wg := [] }

/-- is it the box that the variable has now? -/
def St.now (st : St) (s g : Nat) : Bool :=
  match st.vars.get s with
  | some (.box g' _) => g' == g
  | _ => false
def FP.read (ids : List Nat) : FP := { FP.no with rd := ids }
def FP.write (ids : List Nat) : FP := { FP.no with rd := ids, wr := ids }
def FP.fresh (id : Nat) : FP := { FP.no with wr := [id], nw := true }

/-- the value of a variable: of one that lies in a box of its own, its place -/
def varV (s : Nat) : Option V → V
  | some (.box g _) => .vp s g 0
  | some v => v
  | none => .undef

def ev (st : St) (locs : Tr V) : Opd → V
  | .loc i => (locs.get i).getD .undef
  | .var s => varV s (st.vars.get s)
  | .cst v => v
  | .fnc f => .one (.fn f [])

/-- a value's cells, where it can lie in memory -/
def V.cells : V → Option (List C)
  | .one c => some [c]
  | .agg cs => some cs
  | _ => none

def one? : V → Option C
  | .one c => some c
  | _ => none

def asInt? : V → Option Int
  | .one (.int _ n) => some n
  | _ => none

def asBool? : V → Option Bool
  | .one (.bool b) => some b
  | _ => none

/-- the cells of an object from a place on -/
def cellsAt (el : List C) (off : Nat) : Option Nat → Option V
  | none => (el[off]?).map .one
  | some n => if off + n ≤ el.length then some (.agg ((el.drop off).take n)) else none

def writeAt (el : List C) (off : Nat) (cs : List C) : List C := el.take off ++ cs ++ el.drop (off + cs.length)

/-- the elements that a slice shows -/
def elsOf (h : Heap) : V → Option (List (List C))
  | .lit els => some els
  | .one (.dv xs) => some xs
  | .one .nils => some []
  | .one (.sl id gen off len) => (h.at id gen).bind fun o => if off + len ≤ o.els.length then some ((o.els.drop off).take len) else none
  | _ => none

/-- elements that are bytes, as a string's -/
def bytesOf : List (List C) → Option (List UInt8)
  | [] => some []
  | [.int .u8 n] :: r => if 0 ≤ n ∧ n < 256 then (bytesOf r).map (UInt8.ofNat n.toNat :: ·) else none
  | _ => none

def rdOf : V → List Nat
  | .one (.sl id _ _ _) => [id]
  | .one (.ptr id _ _ _) => [id]
  | _ => []

def lenOf : Bool → V → Option Nat
  | false, .lit els => some els.length
  | false, .one (.dv xs) => some xs.length
  | false, .one .nils => some 0
  | false, .one (.sl _ _ _ len) => some len
  | true, .one (.str s) => some s.length
  | _, _ => none

/-- a cell as an immutable one, and the objects that it reads -/
def frz (h : Heap) : Nat → C → Option (C × List Nat)
  | _, .int k n => some (.int k n, [])
  | _, .bool b => some (.bool b, [])
  | _, .str s => some (.str s, [])
  | _, .dv xs => some (.dv xs, [])
  | _, .nils => some (.dv [], [])
  | 0, _ => none
  | n + 1, .sl id gen off len =>
    match h.at id gen with
    | some o => if off + len ≤ o.els.length then
        match ((o.els.drop off).take len).mapM (fun el => el.mapM (frz h n)) with
        | some xs => some (.dv (xs.map fun el => el.map (·.1)), id :: (xs.flatMap fun el => el.flatMap (·.2)))
        | none => none
      else none
    | none => none
  | _, _ => none

theorem frzDepth_ex : ∃ n : Nat, n = 4194304 := ⟨_, rfl⟩
/-- how deep is frozen; sealed, so that nothing counts down from it -/
noncomputable def frzDepth : Nat := Classical.choose frzDepth_ex
theorem frzDepth_eq : frzDepth = 4194304 := Classical.choose_spec frzDepth_ex

noncomputable def frzCells (h : Heap) (cs : List C) : Option (List C × List Nat) :=
  match cs.mapM (frz h frzDepth) with
  | some xs => some (xs.map (·.1), xs.flatMap (·.2))
  | none => none

noncomputable def frz1 (h : Heap) : V → Option (V × List Nat)
  | .one c => (frz h frzDepth c).map fun x => (.one x.1, x.2)
  | .agg cs => (frzCells h cs).map fun x => (.agg x.1, x.2)
  | .lit els =>
    match els.mapM (fun el => frzCells h el) with
    | some xs => some (.one (.dv (xs.map (·.1))), xs.flatMap (·.2))
    | none => none
  | _ => none

noncomputable def frzV (h : Heap) : V → Option (V × List Nat)
  | .tup vs =>
    match vs.mapM (frz1 h) with
    | some xs => some (.tup (xs.map (·.1)), xs.flatMap (·.2))
    | none => none
  | v => frz1 h v

noncomputable def frzAll (h : Heap) : List V → Option (List V × List Nat)
  | [] => some ([], [])
  | v :: r =>
    match frzV h v, frzAll h r with
    | some (x, a), some (xs, b) => some (x :: xs, a ++ b)
    | _, _ => none

def C.holds : C → Bool
  | .int .. | .bool _ | .str _ => false
  | _ => true
def V.holds : V → Bool
  | .one c => c.holds
  | .agg cs => cs.any C.holds
  | .tup vs => vs.any fun
    | .one c => c.holds
    | .agg cs => cs.any C.holds
    | _ => true
  | _ => true

/-- two integers, strings, bools, pointers -/
def binC (op : BinOp) (t : EqTy) : C → C → Option C
  | .int k a, .int k' b =>
    match op with
    | .shl => if b < 0 then none else some (.int k (k.wrap (a * 2 ^ (min b.toNat k.bits))))
    | .shr => if b < 0 then none else some (.int k (a.fdiv (2 ^ (min b.toNat k.bits))))
    | _ =>
    if k ≠ k' then none else
    match op with
    | .add => some (.int k (k.wrap (a + b)))
    | .sub => some (.int k (k.wrap (a - b)))
    | .mul => some (.int k (k.wrap (a * b)))
    | .quo => if b = 0 then none else some (.int k (k.wrap (a.tdiv b)))
    | .rem => if b = 0 then none else some (.int k (a.tmod b))
    | .and => some (.int k (k.wrap (BitVec.ofInt k.bits a &&& BitVec.ofInt k.bits b).toNat))
    | .or => some (.int k (k.wrap (BitVec.ofInt k.bits a ||| BitVec.ofInt k.bits b).toNat))
    | .xor => some (.int k (k.wrap (BitVec.ofInt k.bits a ^^^ BitVec.ofInt k.bits b).toNat))
    | .andNot => none
    | .eql => some (.bool (decide (a = b)))
    | .neq => some (.bool (!decide (a = b)))
    | .lss => some (.bool (decide (a < b)))
    | .leq => some (.bool (decide (a ≤ b)))
    | .gtr => some (.bool (decide (b < a)))
    | .geq => some (.bool (decide (b ≤ a)))
    | _ => none
  | .str a, .str b =>
    match op with
    | .add => if (a.length + b.length : Int) ≤ 9223372036854775807 then some (.str (a ++ b)) else none
    | .eql => some (.bool (decide (a = b)))
    | .neq => some (.bool (!decide (a = b)))
    | .lss => some (.bool (Op.bytesLess a b))
    | .leq => some (.bool (Op.bytesLess a b || decide (a = b)))
    | .gtr => some (.bool (!(Op.bytesLess a b || decide (a = b))))
    | .geq => some (.bool (!Op.bytesLess a b))
    | _ => none
  | .bool a, .bool b =>
    match op, t with
    | .eql, .bool => some (.bool (a == b))
    | .neq, .bool => some (.bool (!(a == b)))
    | _, _ => none
  | .nilp, .nilp =>
    match op, t with
    | .eql, .ptr => some (.bool true)
    | .neq, .ptr => some (.bool false)
    | _, _ => none
  | .nilp, .ptr .. | .ptr .., .nilp =>
    match op, t with
    | .eql, .ptr => some (.bool false)
    | .neq, .ptr => some (.bool true)
    | _, _ => none
  | _, _ => none

def addC (off : Nat) : C → Option C
  | .ptr id gen el o => some (.ptr id gen el (o + off))
  | .dp el o => some (.dp el (o + off))
  | _ => none

/-- parts laid over a zero value's cells -/
def fillC : List C → List (Nat × List C) → Option (List C)
  | z, [] => some z
  | z, (off, cs) :: r => if off + cs.length ≤ z.length then fillC (writeAt z off cs) r else none

def partsOf (st : St) (locs : Tr V) : List (Nat × Nat × Opd) → Option (List (Nat × List C))
  | [] => some []
  | (off, n, x) :: r =>
    match (ev st locs x).cells, partsOf st locs r with
    | some cs, some l => if cs.length = n then some ((off, cs) :: l) else none
    | _, _ => none

def fillL : List (List C) → List (Nat × List C) → Option (List (List C))
  | z, [] => some z
  | z, (i, cs) :: r => if i < z.length then fillL (z.set i cs) r else none

def litOf (st : St) (locs : Tr V) (sz : Nat) : List (Nat × Opd) → Option (List (Nat × List C))
  | [] => some []
  | (i, x) :: r =>
    match (ev st locs x).cells, litOf st locs sz r with
    | some cs, some l => if cs.length = sz then some ((i, cs) :: l) else none
    | _, _ => none

/-- append: the value, and the heap -/
def appendC (h : Heap) (ty sz bytes : Nat) (x : V) (news : List (List C)) : Option (V × Heap × FP) :=
  if news.all (fun el => decide (el.length = sz)) then
  match x with
  | .one .nils => if news = [] then some (.one .nils, h, FP.no) else
    if news.length * bytes ≤ 140737488355328 then some (.one (.sl h.next (h.fresh h.next) 0 news.length), h.new ty sz news, FP.fresh h.next) else none
  | .one (.sl id gen off len) =>
    match h.at id gen with
    | some o =>
      if o.sz = sz ∧ o.ty = ty ∧ off + len ≤ o.els.length then
        if off + len + news.length ≤ o.els.length then
          some (.one (.sl id gen off (len + news.length)), h.set id { o with els := o.els.take (off + len) ++ news ++ o.els.drop (off + len + news.length) }, FP.write [id])
        else if off = 0 ∧ (len + news.length) * bytes ≤ 140737488355328 then
          some (.one (.sl id (gen + 1) 0 (len + news.length)), h.set id { o with gen := gen + 1, els := o.els.take len ++ news }, FP.write [id])
        else none
      else none
    | none => none
  | _ => none
  else none

def sliceC (h : Heap) (str : Bool) (sz : Nat) (x : V) (lo hi : Option Int) : Option V :=
  match str, x with
  | true, .one (.str s) =>
    let l := lo.getD 0; let u := hi.getD s.length
    if 0 ≤ l ∧ l ≤ u ∧ u ≤ s.length then some (.one (.str ((s.drop l.toNat).take (u.toNat - l.toNat)))) else none
  | false, .one (.dv xs) =>
    let l := lo.getD 0; let u := hi.getD xs.length
    if 0 ≤ l ∧ l ≤ u ∧ u ≤ xs.length ∧ (xs.head?.all fun el => decide (el.length = sz)) = true then some (.one (.dv ((xs.drop l.toNat).take (u.toNat - l.toNat)))) else none
  | false, .one .nils =>
    let l := lo.getD 0; let u := hi.getD 0
    if 0 ≤ l ∧ l ≤ u ∧ u ≤ 0 then some (.one .nils) else none
  | false, .one (.sl id gen off len) =>
    let l := lo.getD 0; let u := hi.getD len
    match h.at id gen with
    | some o => if 0 ≤ l ∧ l ≤ u ∧ (off : Int) + u ≤ o.els.length ∧ o.sz = sz then some (.one (.sl id gen (off + l.toNat) (u.toNat - l.toNat))) else none
    | none => none
  | _, _ => none

/-- one operation that calls nothing -/
def astep (st : St) (locs : Tr V) : AOp → Option (V × Heap × FP)
  | .mov x => some (ev st locs x, st.heap, FP.no)
  | .pick c a b => (asBool? (ev st locs c)).map fun t => (if t then ev st locs a else ev st locs b, st.heap, FP.no)
  | .boxS k ty sz x =>
    match (ev st locs x).cells with
    | some cs => if cs.length = sz then
        let id := st.base + k
        let g := st.heap.fresh id
        some (.one (.ptr id g 0 0), st.heap.set id { gen := g, ty, sz, live := true, els := [cs] }, FP.write [id]) else none
    | none => none
  | .boxD ty sz x =>
    match (ev st locs x).cells with
    | some cs => if cs.length = sz then some (.one (.ptr st.heap.next (st.heap.fresh st.heap.next) 0 0), st.heap.new ty sz [cs], FP.fresh st.heap.next) else none
    | none => none
  | .build zero parts => ((partsOf st locs parts).bind (fillC zero)).map fun cs => (.agg cs, st.heap, FP.no)
  | .lit sz len zero parts => ((litOf st locs sz parts).bind (fillL (List.replicate len zero))).map fun els => (if els = [] then .one .nils else .lit els, st.heap, FP.no)
  | .litD ty sz len zero parts => ((litOf st locs sz parts).bind (fillL (List.replicate len zero))).map fun els =>
      (.one (.sl st.heap.next (st.heap.fresh st.heap.next) 0 els.length), st.heap.new ty sz els, FP.fresh st.heap.next)
  | .load n x =>
    match ev st locs x with
    | .one (.ptr id gen el off) => ((st.heap.at id gen).bind fun o => (o.els[el]?).bind fun cs => cellsAt cs off n).map fun v => (v, st.heap, FP.read [id])
    | .one (.dp el off) => (cellsAt el off n).map fun v => (v, st.heap, FP.no)
    | _ => none
  | .store n p x =>
    match ev st locs p, (ev st locs x).cells with
    | .one (.ptr id gen el off), some cs =>
      match st.heap.at id gen with
      | some o =>
        match o.els[el]? with
        | some e => if cs.length = n ∧ off + n ≤ e.length then some (.undef, st.heap.set id { o with els := o.els.set el (writeAt e off cs) }, FP.write [id]) else none
        | none => none
      | none => none
    | _, _ => none
  | .nilCheck x =>
    match ev st locs x with
    | .one (.ptr id gen el off) => some (.one (.ptr id gen el off), st.heap, FP.no)
    | .one (.dp el off) => some (.one (.dp el off), st.heap, FP.no)
    | .one (.fn f caps) => some (.one (.fn f caps), st.heap, FP.no)
    | _ => none
  | .bin op t x y =>
    match ev st locs x, ev st locs y with
    | .one a, .one b => (binC op t a b).map fun c => (.one c, st.heap, FP.no)
    | _, _ => none
  | .not x => (asBool? (ev st locs x)).map fun b => (.one (.bool (!b)), st.heap, FP.no)
  | .conv k x => (asInt? (ev st locs x)).map fun (n : Int) => (.one (.int k (k.wrap n)), st.heap, FP.no)
  | .strOf x => ((elsOf st.heap (ev st locs x)).bind bytesOf).map fun s => (.one (.str s), st.heap, FP.read (rdOf (ev st locs x)))
  | .mkSlice ty sz bytes zero len cap =>
    match asInt? (ev st locs len), asInt? (ev st locs cap) with
    | some n, some m => if 0 ≤ n ∧ n ≤ m ∧ m * bytes ≤ 281474976710656 ∧ m ≤ 9223372036854775807 ∧ zero.length = sz ∧ 0 < sz then
        some (.one (.sl st.heap.next (st.heap.fresh st.heap.next) 0 n.toNat), st.heap.new ty sz (List.replicate n.toNat zero), FP.fresh st.heap.next) else none
    | _, _ => none
  | .slice str sz x lo hi =>
    match lo.map (fun o => asInt? (ev st locs o)), hi.map (fun o => asInt? (ev st locs o)) with
    | some none, _ => none
    | _, some none => none
    | l, u => (sliceC st.heap str sz (ev st locs x) (l.getD none) (u.getD none)).map fun v => (v, st.heap, FP.read (rdOf (ev st locs x)))
  | .fieldAddr off x =>
    match ev st locs x with
    | .one c => (addC off c).map fun p => (.one p, st.heap, FP.no)
    | _ => none
  | .field off n x =>
    match ev st locs x with
    | .agg cs => (cellsAt cs off n).map fun v => (v, st.heap, FP.no)
    | _ => none
  | .indexAddr sz x i =>
    match ev st locs x, asInt? (ev st locs i) with
    | .one (.dv xs), some n => if 0 ≤ n then (xs[n.toNat]?).bind fun el => if el.length = sz then some (.one (.dp el 0), st.heap, FP.no) else none else none
    | .lit xs, some n => if 0 ≤ n then (xs[n.toNat]?).bind fun el => if el.length = sz then some (.one (.dp el 0), st.heap, FP.no) else none else none
    | .one (.sl id gen off len), some n =>
      match st.heap.at id gen with
      | some o => if 0 ≤ n ∧ n < len ∧ o.sz = sz then some (.one (.ptr id gen (off + n.toNat) 0), st.heap, FP.read [id]) else none
      | none => none
    | _, _ => none
  | .index x i =>
    match ev st locs x, asInt? (ev st locs i) with
    | .one (.str s), some n => if 0 ≤ n then (s[n.toNat]?).map fun b => (.one (.int .u8 b.toNat), st.heap, FP.no) else none
    | _, _ => none
  | .len str x => (lenOf str (ev st locs x)).map fun (n : Nat) => (.one (.int .i64 (n : Int)), st.heap, FP.no)
  | .append ty sz bytes x y => ((elsOf st.heap (ev st locs y)).bind fun news => appendC st.heap ty sz bytes (ev st locs x) news).map fun (v, h, fp) => (v, h, { fp with rd := rdOf (ev st locs y) ++ fp.rd })
  | .copy _ _ _ => none
  | .cap x =>
    match ev st locs x with
    | .one .nils => some (.one (.int .i64 0), st.heap, FP.no)
    | _ => none
  | .appendZ ty sz bytes zero x n =>
    match ev st locs x, asInt? (ev st locs n) with
    | .one .nils, some m => if 0 < m ∧ m * bytes ≤ 140737488355328 ∧ m ≤ 140737488355328 ∧ zero.length = sz then
        some (.one (.sl st.heap.next (st.heap.fresh st.heap.next) 0 m.toNat), st.heap.new ty sz (List.replicate m.toNat zero), FP.fresh st.heap.next) else none
    | _, _ => none
  | .bad => none
  | .minmax mx x y =>
    match ev st locs x, ev st locs y with
    | .one (.int k a), .one (.int _ b) => some (.one (.int k (if mx then (if b > a then b else a) else (if b < a then b else a))), st.heap, FP.no)
    | _, _ => none
  | .extract x i =>
    match ev st locs x with
    | .tup vs => (vs[i]?).map fun v => (v, st.heap, FP.no)
    | _ => none
  | .mkfn f caps => (caps.mapM fun o => one? (ev st locs o)).map fun cs => (.one (.fn f cs), st.heap, FP.no)
  | .boxV .. => none
  | .call .. => none
  | .callV .. => none

/-- the same, where a place is in a box of a variable's own -/
def vstep (st : St) (locs : Tr V) (op : AOp) : Option (V × St × FP) :=
  match op with
  | .boxV s _ sz x =>
    match (ev st locs x).cells with
    | some cs => if cs.length = sz then
        let g := match st.vars.get s with | some (.box g _) => g + 1 | _ => 0
        some (.box g cs, st, { FP.no with rv := [s], wv := [s], rg := [s], wg := [s] }) else none
    | none => none
  | .fieldAddr off x =>
    match ev st locs x with
    | .vp s g o => if st.now s g then some (.vp s g (o + off), st, { FP.no with rg := [s] }) else none
    | _ => (astep st locs op).map fun (v, h, fp) => (v, { st with heap := h }, fp)
  | .load n x =>
    match ev st locs x with
    | .vp s g o =>
      match st.vars.get s with
      | some (.box g' cs) => if g' = g then (cellsAt cs o n).map fun v => (v, st, { FP.no with rv := [s] }) else none
      | _ => none
    | _ => (astep st locs op).map fun (v, h, fp) => (v, { st with heap := h }, fp)
  | .store n p x =>
    match ev st locs p with
    | .vp s g o =>
      match st.vars.get s, (ev st locs x).cells with
      | some (.box g' cs), some ds => if g' = g ∧ ds.length = n ∧ o + n ≤ cs.length then some (.undef, { st with vars := st.vars.put s (.box g (writeAt cs o ds)) }, { FP.no with rv := [s], wv := [s] }) else none
      | _, _ => none
    | _ => (astep st locs op).map fun (v, h, fp) => (v, { st with heap := h }, fp)
  | .nilCheck x =>
    match ev st locs x with
    | .vp s g o => if st.now s g then some (.vp s g o, st, { FP.no with rg := [s] }) else none
    | _ => (astep st locs op).map fun (v, h, fp) => (v, { st with heap := h }, fp)
  | _ => (astep st locs op).map fun (v, h, fp) => (v, { st with heap := h }, fp)

def noneOf (a b : List Nat) : Bool := a.all fun i => !(b.contains i)

def FP.heapy (a : FP) : Bool := !a.rd.isEmpty || !a.wr.isEmpty || a.nw || a.all

/-- are two operations free of each other? -/
def FP.free (a b : FP) : Bool :=
  noneOf a.wr b.rd && noneOf a.wr b.wr && noneOf b.wr a.rd && !(a.nw && b.nw) && !(a.all && b.heapy) && !(b.all && a.heapy) && noneOf a.wv b.rv && noneOf a.wv b.wv && noneOf b.wv a.rv && noneOf a.wg b.rg && noneOf b.wg a.rg

/-- the variable that is written too -/
def FP.dst (fp : FP) : Dst → FP
  | .var s => { fp with wv := s :: fp.wv, wg := s :: fp.wg }
  | _ => fp

def fpOk (un : List Nat) (fps : Tr FP) (fp : FP) : Bool :=
  un.all fun i => match fps.get i with | some g => g.free fp | none => true

/-- a function -/
structure AFun where
  params : List Nat
  boxes : Nat
  body : ACode
  results : List (Opd × Option (Option Nat))
  deriving Inhabited

end Go.AI

/- How abstract cells and heaps stand to the cells and blocks of the machine. -/
namespace Go.AI
open Go

theorem Tr.get_putF {α : Type} (x : α) : ∀ (f n : Nat) (t : Tr α), n < f → (Tr.putF f t n x).get n = some x
  | 0, n, t, h => by omega
  | f + 1, n, t, h => by
    unfold Tr.putF
    by_cases h0 : n = 0
    · simp [h0, Tr.get]
    · by_cases h1 : n % 2 = 1
      · simp only [h0, h1, if_true, if_false, Tr.get]
        exact Tr.get_putF x f (n / 2) _ (by omega)
      · simp only [h0, h1, if_false, Tr.get]
        exact Tr.get_putF x f (n / 2 - 1) _ (by omega)

theorem Tr.get_putF_ne {α : Type} (x : α) : ∀ (f n m : Nat) (t : Tr α), n < f → m ≠ n → (Tr.putF f t n x).get m = t.get m
  | 0, n, m, t, h, _ => by omega
  | f + 1, n, m, t, h, hne => by
    unfold Tr.putF
    by_cases h0 : n = 0
    · subst h0
      cases t <;> simp [Tr.get, hne, Tr.le, Tr.ri]
    · by_cases h1 : n % 2 = 1
      · simp only [h0, h1, if_true, if_false]
        cases t with
        | lf =>
          simp only [Tr.get, Tr.val, Tr.le, Tr.ri]
          split
          · rfl
          · split
            · have := Tr.get_putF_ne x f (n / 2) (m / 2) .lf (by omega) (by omega); simpa [Tr.get] using this
            · rfl
        | nd v l r =>
          simp only [Tr.get, Tr.val, Tr.le, Tr.ri]
          split
          · rfl
          · split
            · exact Tr.get_putF_ne x f (n / 2) (m / 2) l (by omega) (by omega)
            · rfl
      · simp only [h0, h1, if_false]
        cases t with
        | lf =>
          simp only [Tr.get, Tr.val, Tr.le, Tr.ri]
          split
          · rfl
          · split
            · rfl
            · have := Tr.get_putF_ne x f (n / 2 - 1) (m / 2 - 1) .lf (by omega) (by omega); simpa [Tr.get] using this
        | nd v l r =>
          simp only [Tr.get, Tr.val, Tr.le, Tr.ri]
          split
          · rfl
          · split
            · rfl
            · exact Tr.get_putF_ne x f (n / 2 - 1) (m / 2 - 1) r (by omega) (by omega)

@[simp] theorem Tr.get_put {α : Type} (t : Tr α) (n : Nat) (x : α) : (t.put n x).get n = some x := Tr.get_putF x (n + 1) n t (by omega)
theorem Tr.get_put_ne {α : Type} (t : Tr α) {n m : Nat} (x : α) (h : m ≠ n) : (t.put n x).get m = t.get m := Tr.get_putF_ne x (n + 1) n m t (by omega) h
theorem Tr.get_put_if {α : Type} (t : Tr α) (n m : Nat) (x : α) : (t.put n x).get m = if m = n then some x else t.get m := by
  by_cases h : m = n
  · subst h; simp
  · rw [Tr.get_put_ne t x h, if_neg h]

/-! ### cells -/
def rd (hp : Array Go.Obj) (b k : Nat) : Option Value :=
  match hp[b]? with
  | some (.cells cs _ _) => cs[k]?
  | _ => none

theorem cell_rd (w : World) (b k : Nat) : w.cell? ⟨b, k, none⟩ = rd w.heap b k := by
  simp only [World.cell?, rd]
  cases w.heap[b]? with
  | none => rfl
  | some o => cases o <;> simp

theorem rd_lt {hp : Array Go.Obj} {b k : Nat} {v : Value} (h : rd hp b k = some v) : b < hp.size := by
  unfold rd at h
  by_cases hb : b < hp.size
  · exact hb
  · simp [Array.getElem?_eq_none (Nat.le_of_not_lt hb)] at h

inductive DR (hp : Array Go.Obj) (S : Nat → Prop) : C → Value → Prop where
  | int (k : IntKind) (n : Int) : DR hp S (.int k n) (.int k n)
  | bool (b : Bool) : DR hp S (.bool b) (.bool b)
  | str (s : List UInt8) : DR hp S (.str s) (.string ⟨s.toArray⟩)
  | dv0 (A : Option Addr) (cap : Nat) : DR hp S (.dv []) (.slice A 0 cap)
  | dv (xs : List (List C)) (b off cap s : Nat) (vals : Nat → Nat → Value) (hS : S b) (hc : xs.length ≤ cap)
      (hs : ∀ (i : Nat) (el : List C), xs[i]? = some el → el.length = s)
      (hv : ∀ (i : Nat) (el : List C) (j : Nat) (c : C), xs[i]? = some el → el[j]? = some c → rd hp b (off + i * s + j) = some (vals i j))
      (hd : ∀ (i : Nat) (el : List C) (j : Nat) (c : C), xs[i]? = some el → el[j]? = some c → DR hp S c (vals i j)) : DR hp S (.dv xs) (.slice (some ⟨b, off, none⟩) xs.length cap)

theorem DR.mono {hp hp' : Array Go.Obj} {S S' : Nat → Prop} (hS : ∀ b, S b → S' b) (hr : ∀ b k v, S b → rd hp b k = some v → rd hp' b k = some v) {c : C} {v : Value} (h : DR hp S c v) : DR hp' S' c v := by
  induction h with
  | int k n => exact .int k n
  | bool b => exact .bool b
  | str s => exact .str s
  | dv0 A cap => exact .dv0 A cap
  | dv xs b off cap s vals hSb hc hs hv _ ih => exact .dv xs b off cap s vals (hS b hSb) hc hs (fun i el j c h1 h2 => hr _ _ _ hSb (hv i el j c h1 h2)) ih

inductive CR (hp : Array Go.Obj) (S : Nat → Prop) (μ K : Nat → Nat) (h : Heap) : C → Value → Prop where
  | deep {c : C} {v : Value} (hd : DR hp S c v) : CR hp S μ K h c v
  | nils (A : Option Addr) : CR hp S μ K h .nils (.slice A 0 0)
  | sl (id gen off len : Nat) (A : Option Addr) (cap : Nat) (o : Obj) (hm : h.mem.get id = some o) (hg : gen ≤ o.gen)
      (ho : o.gen = gen → o.live = true → (A = some ⟨μ id, off * o.sz, none⟩ ∨ (cap = 0 ∧ ∃ a, A = some a)) ∧ off + cap = K id ∧ len ≤ cap) : CR hp S μ K h (.sl id gen off len) (.slice A len cap)
  | ptr (id gen el off : Nat) (a : Addr) (o : Obj) (hm : h.mem.get id = some o) (hg : gen ≤ o.gen)
      (ho : o.gen = gen → o.live = true → a = ⟨μ id, el * o.sz + off, none⟩) : CR hp S μ K h (.ptr id gen el off) (.pointer (some a))
  | dp (el : List C) (off b o : Nat) (vals : Nat → Value) (hS : S b) (hv : ∀ (j : Nat) (c : C), el[j]? = some c → rd hp b (o + j) = some (vals j))
      (hd : ∀ (j : Nat) (c : C), el[j]? = some c → CR hp S μ K h c (vals j)) : CR hp S μ K h (.dp el off) (.pointer (some ⟨b, o + off, none⟩))
  | nilp : CR hp S μ K h .nilp (.pointer none)
  | fn (f : FuncId) (caps : List C) (vs : Array Value) (hl : caps.length = vs.size) (vals : Nat → Value) (hv : ∀ (i : Nat) (c : C), caps[i]? = some c → vs[i]? = some (vals i))
      (hd : ∀ (i : Nat) (c : C), caps[i]? = some c → CR hp S μ K h c (vals i)) : CR hp S μ K h (.fn f caps) (.func (.func f) #[] vs)

theorem Heap.look_mem {h : Heap} {id : Nat} {o : Obj} (hl : h.look id = some o) : h.mem.get id = some o ∧ o.live = true := by
  unfold Heap.look at hl
  split at hl
  · split at hl
    · cases hl; exact ⟨by assumption, by assumption⟩
    · cases hl
  · cases hl

theorem Heap.look_of {h : Heap} {id : Nat} {o : Obj} (hm : h.mem.get id = some o) (hl : o.live = true) : h.look id = some o := by
  simp [Heap.look, hm, hl]

theorem Heap.at_look {h : Heap} {id gen : Nat} {o : Obj} (ha : h.at id gen = some o) : h.look id = some o ∧ o.gen = gen := by
  unfold Heap.at at ha
  split at ha
  · split at ha
    · cases ha; exact ⟨by assumption, by assumption⟩
    · cases ha
  · cases ha

structure HeapRel (hp : Array Go.Obj) (S : Nat → Prop) (μ K : Nat → Nat) (h : Heap) : Prop where
  wf : ∀ id o, h.mem.get id = some o → id < h.next
  obj : ∀ id o, h.look id = some o → ∃ cs, hp[μ id]? = some (.cells cs o.ty (0, 0)) ∧ cs.size = K id * o.sz ∧ o.els.length ≤ K id ∧ K id ≤ 9223372036854775807 ∧
    ∀ (i : Nat) (el : List C), o.els[i]? = some el → el.length = o.sz ∧ ∀ (j : Nat) (c : C), el[j]? = some c → ∃ v, cs[i * o.sz + j]? = some v ∧ CR hp S μ K h c v
  inj : ∀ id o id' o', h.look id = some o → h.look id' = some o' → μ id = μ id' → id = id'
  sep : ∀ id o, h.look id = some o → ¬ S (μ id)
  bnd : ∀ b, S b → b < hp.size

structure Ext (hp : Array Go.Obj) (S : Nat → Prop) (μ K : Nat → Nat) (h : Heap) (hp' : Array Go.Obj) (S' : Nat → Prop) (μ' K' : Nat → Nat) (h' : Heap) : Prop where
  size : hp.size ≤ hp'.size
  keep : ∀ b, b < hp.size → (∀ id o, h.look id = some o → μ id ≠ b) → hp'[b]? = hp[b]?
  sub : ∀ b, S b → S' b
  ids : ∀ id o, h.mem.get id = some o → ∃ o', h'.mem.get id = some o' ∧ o.gen ≤ o'.gen ∧ (o'.gen = o.gen → o'.live = true → o.live = true ∧ o'.sz = o.sz ∧ o'.ty = o.ty ∧ μ' id = μ id ∧ K' id = K id)
  next : h.next ≤ h'.next
  own : ∀ id o', h'.look id = some o' → hp.size ≤ μ' id ∨ ∃ o, h.look id = some o ∧ μ' id = μ id
  back : ∀ b, S' b → S b ∨ hp.size ≤ b ∨ ∃ id o, h.look id = some o ∧ μ id = b

theorem Ext.refl (hp : Array Go.Obj) (S : Nat → Prop) (μ K : Nat → Nat) (h : Heap) : Ext hp S μ K h hp S μ K h where
  size := Nat.le_refl _
  keep := fun _ _ _ => rfl
  sub := fun _ h => h
  ids := fun _ o hm => ⟨o, hm, Nat.le_refl _, fun _ hl => ⟨hl, rfl, rfl, rfl, rfl⟩⟩
  next := Nat.le_refl _
  own := fun _ o' hl => .inr ⟨o', hl, rfl⟩
  back := fun _ h => .inl h

theorem Ext.trans {hp hp' hp'' : Array Go.Obj} {S S' S'' : Nat → Prop} {μ K μ' K' μ'' K'' : Nat → Nat} {h h' h'' : Heap}
    (a : Ext hp S μ K h hp' S' μ' K' h') (b : Ext hp' S' μ' K' h' hp'' S'' μ'' K'' h'') : Ext hp S μ K h hp'' S'' μ'' K'' h'' where
  size := Nat.le_trans a.size b.size
  keep := fun k hk hno => by
    rw [b.keep k (Nat.lt_of_lt_of_le hk a.size) ?_, a.keep k hk hno]
    intro id o' hl he
    rcases a.own id o' hl with h1 | ⟨o, ho, h1⟩
    · omega
    · exact hno id o ho (h1 ▸ he)
  sub := fun k hk => b.sub k (a.sub k hk)
  ids := fun id o hm => by
    obtain ⟨o', hm', hg, hx⟩ := a.ids id o hm
    obtain ⟨o'', hm'', hg', hx'⟩ := b.ids id o' hm'
    refine ⟨o'', hm'', Nat.le_trans hg hg', fun he hl => ?_⟩
    have e1 : o''.gen = o'.gen := by omega
    have e2 : o'.gen = o.gen := by omega
    obtain ⟨l1, s1, t1, m1, k1⟩ := hx' e1 hl
    obtain ⟨l2, s2, t2, m2, k2⟩ := hx e2 l1
    exact ⟨l2, s1.trans s2, t1.trans t2, m1.trans m2, k1.trans k2⟩
  next := Nat.le_trans a.next b.next
  own := fun id o'' hl => by
    rcases b.own id o'' hl with h1 | ⟨o', ho, h1⟩
    · exact .inl (Nat.le_trans a.size h1)
    · rcases a.own id o' ho with h2 | ⟨o, ho2, h2⟩
      · exact .inl (h1 ▸ h2)
      · exact .inr ⟨o, ho2, h1.trans h2⟩
  back := fun k hk => by
    rcases b.back k hk with h1 | h1 | ⟨id, o', ho, h1⟩
    · exact a.back k h1
    · exact .inr (.inl (Nat.le_trans a.size h1))
    · rcases a.own id o' ho with h2 | ⟨o, ho2, h2⟩
      · exact .inr (.inl (h1 ▸ h2))
      · exact .inr (.inr ⟨id, o, ho2, h2 ▸ h1⟩)

theorem Ext.rd {hp hp' : Array Go.Obj} {S S' : Nat → Prop} {μ K μ' K' : Nat → Nat} {h h' : Heap} (hr : HeapRel hp S μ K h) (e : Ext hp S μ K h hp' S' μ' K' h')
    {b k : Nat} {v : Value} (hS : S b) (hv : AI.rd hp b k = some v) : AI.rd hp' b k = some v := by
  have := e.keep b (rd_lt hv) (fun id o hl he => hr.sep id o hl (he ▸ hS))
  unfold AI.rd at *
  rw [this]; exact hv

theorem DR.ext {hp hp' : Array Go.Obj} {S S' : Nat → Prop} {μ K μ' K' : Nat → Nat} {h h' : Heap} (hr : HeapRel hp S μ K h) (e : Ext hp S μ K h hp' S' μ' K' h')
    {c : C} {v : Value} (hd : DR hp S c v) : DR hp' S' c v := hd.mono e.sub (fun _ _ _ hS hv => e.rd hr hS hv)

theorem CR.ext {hp hp' : Array Go.Obj} {S S' : Nat → Prop} {μ K μ' K' : Nat → Nat} {h h' : Heap} (hr : HeapRel hp S μ K h) (e : Ext hp S μ K h hp' S' μ' K' h')
    {c : C} {v : Value} (hc : CR hp S μ K h c v) : CR hp' S' μ' K' h' c v := by
  induction hc with
  | deep hd => exact .deep (hd.ext hr e)
  | nils A => exact .nils A
  | sl id gen off len A cap o hm hg ho =>
    obtain ⟨o', hm', hg', hx⟩ := e.ids id o hm
    refine .sl id gen off len A cap o' hm' (Nat.le_trans hg hg') fun h1 h2 => ?_
    have e1 : o'.gen = o.gen := by omega
    obtain ⟨l, s, _, m, k⟩ := hx e1 h2
    rw [m, k, s]
    exact ho (by omega) l
  | ptr id gen el off a o hm hg ho =>
    obtain ⟨o', hm', hg', hx⟩ := e.ids id o hm
    refine .ptr id gen el off a o' hm' (Nat.le_trans hg hg') fun h1 h2 => ?_
    have e1 : o'.gen = o.gen := by omega
    obtain ⟨l, s, _, m, k⟩ := hx e1 h2
    rw [m, s]
    exact ho (by omega) l
  | dp el off b o vals hS hv _ ih => exact .dp el off b o vals (e.sub b hS) (fun j c hj => e.rd hr hS (hv j c hj)) ih
  | nilp => exact .nilp
  | fn f caps vs hl vals hv _ ih => exact .fn f caps vs hl vals hv ih

/-! ### values -/
def CRs (hp : Array Go.Obj) (S : Nat → Prop) (μ K : Nat → Nat) (h : Heap) (cs : List C) (vs : List Value) : Prop :=
  cs.length = vs.length ∧ ∀ (i : Nat) (c : C) (v : Value), cs[i]? = some c → vs[i]? = some v → CR hp S μ K h c v

inductive VR (hp : Array Go.Obj) (S : Nat → Prop) (μ K : Nat → Nat) (h : Heap) : V → Value → Prop where
  | undef (v : Value) : VR hp S μ K h .undef v
  | box (g : Nat) (cs : List C) (v : Value) : VR hp S μ K h (.box g cs) v
  | vp (s g o : Nat) (v : Value) : VR hp S μ K h (.vp s g o) v
  | one {c : C} {v : Value} (hc : CR hp S μ K h c v) : VR hp S μ K h (.one c) v
  | agg {cs : List C} {vs : Array Value} (hc : CRs hp S μ K h cs vs.toList) : VR hp S μ K h (.agg cs) (.agg vs)
  | tup {cs : List V} {vs : Array Value} (hl : cs.length = vs.size) (vals : Nat → Value) (hv : ∀ (i : Nat) (c : V), cs[i]? = some c → vs[i]? = some (vals i))
      (hd : ∀ (i : Nat) (c : V), cs[i]? = some c → VR hp S μ K h c (vals i)) : VR hp S μ K h (.tup cs) (.tuple vs)
  | lit (els : List (List C)) (b s : Nat) (vals : Nat → Nat → Value) (hS : S b) (hs : ∀ (i : Nat) (el : List C), els[i]? = some el → el.length = s)
      (hv : ∀ (i : Nat) (el : List C) (j : Nat) (c : C), els[i]? = some el → el[j]? = some c → rd hp b (i * s + j) = some (vals i j))
      (hd : ∀ (i : Nat) (el : List C) (j : Nat) (c : C), els[i]? = some el → el[j]? = some c → CR hp S μ K h c (vals i j)) : VR hp S μ K h (.lit els) (.slice (some ⟨b, 0, none⟩) els.length els.length)

theorem CRs.ext {hp hp' : Array Go.Obj} {S S' : Nat → Prop} {μ K μ' K' : Nat → Nat} {h h' : Heap} (hr : HeapRel hp S μ K h) (e : Ext hp S μ K h hp' S' μ' K' h')
    {cs : List C} {vs : List Value} (hc : CRs hp S μ K h cs vs) : CRs hp' S' μ' K' h' cs vs := ⟨hc.1, fun i c v h1 h2 => (hc.2 i c v h1 h2).ext hr e⟩

theorem VR.ext {hp hp' : Array Go.Obj} {S S' : Nat → Prop} {μ K μ' K' : Nat → Nat} {h h' : Heap} (hr : HeapRel hp S μ K h) (e : Ext hp S μ K h hp' S' μ' K' h')
    {c : V} {v : Value} (hc : VR hp S μ K h c v) : VR hp' S' μ' K' h' c v := by
  induction hc with
  | undef v => exact .undef v
  | box g cs v => exact .box g cs v
  | vp s g o v => exact .vp s g o v
  | one hc => exact .one (hc.ext hr e)
  | agg hc => exact .agg (hc.ext hr e)
  | tup hl vals hv _ ih => exact .tup hl vals hv ih
  | lit els b s vals hS hs hv hd => exact .lit els b s vals (e.sub b hS) hs (fun i el j c h1 h2 => e.rd hr hS (hv i el j c h1 h2)) (fun i el j c h1 h2 => (hd i el j c h1 h2).ext hr e)

/-- no cell of the model's is a whole value of several cells -/
theorem CR.oneCell {hp : Array Go.Obj} {S : Nat → Prop} {μ K : Nat → Nat} {h : Heap} {c : C} {v : Value} (hc : CR hp S μ K h c v) : v.oneCell' = true := by
  cases hc with
  | deep hd => cases hd <;> rfl
  | _ => rfl

end Go.AI

/- What the machine's stores and new blocks do to the relation between abstract heaps and the machine's memory. -/
namespace Go.AI
open Go

variable {hp : Array Go.Obj} {S : Nat → Prop} {μ K : Nat → Nat} {h : Heap}

theorem HeapRel.lt (hr : HeapRel hp S μ K h) {id : Nat} {o : Obj} (hl : h.look id = some o) : μ id < hp.size := by
  obtain ⟨cs, hc, _⟩ := hr.obj id o hl
  exact (Array.getElem?_eq_some_iff.1 hc).1

theorem Heap.look_put {h : Heap} {id id' n : Nat} {o o' : Obj} (hl : ({ next := n, mem := h.mem.put id o } : Heap).look id' = some o') :
    (id' = id ∧ o' = o ∧ o.live = true) ∨ (id' ≠ id ∧ h.look id' = some o') := by
  by_cases e : id' = id
  · subst e
    have := Heap.look_mem hl
    simp at this
    exact .inl ⟨rfl, this.1.symm, this.1 ▸ this.2⟩
  · refine .inr ⟨e, ?_⟩
    have := Heap.look_mem hl
    rw [Tr.get_put_ne _ _ e] at this
    exact Heap.look_of this.1 this.2

/-- a new block that nobody owns: it will not be written -/
theorem pushS (hr : HeapRel hp S μ K h) (cs : Array Value) (ty : TypeId) :
    Ext hp S μ K h (hp.push (.cells cs ty (0, 0))) (fun b => S b ∨ b = hp.size) μ K h ∧ HeapRel (hp.push (.cells cs ty (0, 0))) (fun b => S b ∨ b = hp.size) μ K h := by
  have e : Ext hp S μ K h (hp.push (.cells cs ty (0, 0))) (fun b => S b ∨ b = hp.size) μ K h := by
    refine ⟨by simp, fun b hb _ => by simp [Array.getElem?_push, Nat.ne_of_lt hb], fun b hb => .inl hb, fun id o hm => ⟨o, hm, Nat.le_refl _, fun _ hl => ⟨hl, rfl, rfl, rfl, rfl⟩⟩, Nat.le_refl _, fun id o hl => .inr ⟨o, hl, rfl⟩, fun b hb => ?_⟩
    rcases hb with hb | hb
    · exact .inl hb
    · exact .inr (.inl (by omega))
  refine ⟨e, hr.wf, fun id o hl => ?_, hr.inj, fun id o hl hb => ?_, fun b hb => ?_⟩
  · obtain ⟨cs', h1, h2, h3, h4, h5⟩ := hr.obj id o hl
    refine ⟨cs', ?_, h2, h3, h4, fun i el hi => ⟨(h5 i el hi).1, fun j c hj => ?_⟩⟩
    · rw [Array.getElem?_push, if_neg (by have := hr.lt hl; omega)]; exact h1
    · obtain ⟨v, hv, hc⟩ := (h5 i el hi).2 j c hj
      exact ⟨v, hv, hc.ext hr e⟩
  · rcases hb with hb | hb
    · exact hr.sep id o hl hb
    · have := hr.lt hl; omega
  · simp only [Array.size_push]
    rcases hb with hb | hb
    · have := hr.bnd b hb; omega
    · omega

/-- the world goes on, with nothing new that is told of -/
theorem pushN (hr : HeapRel hp S μ K h) (o : Go.Obj) : Ext hp S μ K h (hp.push o) S μ K h ∧ HeapRel (hp.push o) S μ K h := by
  have e : Ext hp S μ K h (hp.push o) S μ K h :=
    ⟨by simp, fun b hb _ => by simp [Array.getElem?_push, Nat.ne_of_lt hb], fun b hb => hb, fun id o hm => ⟨o, hm, Nat.le_refl _, fun _ hl => ⟨hl, rfl, rfl, rfl, rfl⟩⟩, Nat.le_refl _, fun id o hl => .inr ⟨o, hl, rfl⟩, fun b hb => .inl hb⟩
  refine ⟨e, hr.wf, fun id o hl => ?_, hr.inj, hr.sep, fun b hb => ?_⟩
  · obtain ⟨cs', h1, h2, h3, h4, h5⟩ := hr.obj id o hl
    refine ⟨cs', ?_, h2, h3, h4, fun i el hi => ⟨(h5 i el hi).1, fun j c hj => ?_⟩⟩
    · rw [Array.getElem?_push, if_neg (by have := hr.lt hl; omega)]; exact h1
    · obtain ⟨v, hv, hc⟩ := (h5 i el hi).2 j c hj
      exact ⟨v, hv, hc.ext hr e⟩
  · have := hr.bnd b hb; simp only [Array.size_push]; omega

theorem Heap.fresh_of {h : Heap} {id : Nat} {o : Obj} (hm : h.mem.get id = some o) : h.fresh id = o.gen + 1 := by simp [Heap.fresh, hm]

/-- cells in a block, as an object's elements -/
def Holds (hp : Array Go.Obj) (S : Nat → Prop) (μ K : Nat → Nat) (h : Heap) (sz : Nat) (els : List (List C)) (cs : Array Value) : Prop :=
  ∀ (i : Nat) (el : List C), els[i]? = some el → el.length = sz ∧ ∀ (j : Nat) (c : C), el[j]? = some c → ∃ v, cs[i * sz + j]? = some v ∧ CR hp S μ K h c v

/-- a number gets a content in a new block -/
theorem install (hr : HeapRel hp S μ K h) (id n ty sz k : Nat) (els : List (List C)) (cs : Array Value) (hid : id < n) (hn : h.next ≤ n) (hcs : cs.size = k * sz) (hk : els.length ≤ k) (hk2 : k ≤ 9223372036854775807)
    (hels : Holds hp S μ K h sz els cs) :
    Ext hp S μ K h (hp.push (.cells cs ty (0, 0))) S (fun x => if x = id then hp.size else μ x) (fun x => if x = id then k else K x) { next := n, mem := h.mem.put id { gen := h.fresh id, ty, sz, live := true, els } } ∧
    HeapRel (hp.push (.cells cs ty (0, 0))) S (fun x => if x = id then hp.size else μ x) (fun x => if x = id then k else K x) { next := n, mem := h.mem.put id { gen := h.fresh id, ty, sz, live := true, els } } := by
  have e : Ext hp S μ K h (hp.push (.cells cs ty (0, 0))) S (fun x => if x = id then hp.size else μ x) (fun x => if x = id then k else K x) { next := n, mem := h.mem.put id { gen := h.fresh id, ty, sz, live := true, els } } := by
    refine ⟨by simp, fun b hb _ => by simp [Array.getElem?_push, Nat.ne_of_lt hb], fun b hb => hb, fun id' o hm => ?_, hn, fun id' o' hl => ?_, fun b hb => .inl hb⟩
    · by_cases e : id' = id
      · subst e
        refine ⟨_, Tr.get_put _ _ _, ?_, fun hg => ?_⟩
        · simp only [Heap.fresh_of hm]; omega
        · simp only [Heap.fresh_of hm] at hg; omega
      · exact ⟨o, by rw [Tr.get_put_ne _ _ e]; exact hm, Nat.le_refl _, fun _ hl => ⟨hl, rfl, rfl, by simp [e], by simp [e]⟩⟩
    · rcases Heap.look_put hl with ⟨rfl, _, _⟩ | ⟨e, hl'⟩
      · exact .inl (by simp)
      · exact .inr ⟨o', hl', by simp [e]⟩
  refine ⟨e, fun id' o hm => ?_, fun id' o hl => ?_, fun i1 o1 i2 o2 h1 h2 hm => ?_, fun id' o hl hb => ?_, fun b hb => by have := hr.bnd b hb; simp only [Array.size_push]; omega⟩
  · by_cases e : id' = id
    · subst e; exact hid
    · rw [Tr.get_put_ne _ _ e] at hm
      exact Nat.lt_of_lt_of_le (hr.wf id' o hm) hn
  · rcases Heap.look_put hl with ⟨rfl, rfl, _⟩ | ⟨e1, hl'⟩
    · refine ⟨cs, by simp, by simpa using hcs, by simpa using hk, by simpa using hk2, fun i el hi => ⟨(hels i el hi).1, fun j c hj => ?_⟩⟩
      obtain ⟨v, hv, hc⟩ := (hels i el hi).2 j c hj
      exact ⟨v, hv, hc.ext hr e⟩
    · obtain ⟨cs', h1, h2, h3, h4, h5⟩ := hr.obj id' o hl'
      refine ⟨cs', ?_, by simpa [e1] using h2, by simpa [e1] using h3, by simpa [e1] using h4, fun i el hi => ⟨(h5 i el hi).1, fun j c hj => ?_⟩⟩
      · simp only [e1, if_false]
        rw [Array.getElem?_push, if_neg (by have := hr.lt hl'; omega)]; exact h1
      · obtain ⟨v, hv, hc⟩ := (h5 i el hi).2 j c hj
        exact ⟨v, hv, hc.ext hr e⟩
  · rcases Heap.look_put h1 with ⟨rfl, _, _⟩ | ⟨e1, h1'⟩ <;> rcases Heap.look_put h2 with ⟨rfl, _, _⟩ | ⟨e2, h2'⟩
    · rfl
    · simp only [if_true, e2, if_false] at hm
      have := hr.lt h2'; omega
    · simp only [if_true, e1, if_false] at hm
      have := hr.lt h1'; omega
    · simp only [e1, e2, if_false] at hm
      exact hr.inj _ _ _ _ h1' h2' hm
  · rcases Heap.look_put hl with ⟨rfl, _, _⟩ | ⟨e1, hl'⟩
    · simp only [if_true] at hb
      have := hr.bnd _ hb; omega
    · simp only [e1, if_false] at hb
      exact hr.sep _ _ hl' hb

/-- an object's own block gets other cells -/
theorem modify (hr : HeapRel hp S μ K h) {hp' : Array Go.Obj} (id g : Nat) (o : Obj) (els : List (List C)) (cs' : Array Value) (hl : h.look id = some o) (hg : o.gen ≤ g)
    (hb : hp'[μ id]? = some (.cells cs' o.ty (0, 0))) (ho : ∀ b, b ≠ μ id → hp'[b]? = hp[b]?) (hsz : hp'.size = hp.size) (hcs : cs'.size = K id * o.sz) (hk : els.length ≤ K id)
    (hels : Holds hp S μ K h o.sz els cs') :
    Ext hp S μ K h hp' S μ K (h.set id { o with gen := g, els := els }) ∧ HeapRel hp' S μ K (h.set id { o with gen := g, els := els }) := by
  obtain ⟨hm0, hlive⟩ := Heap.look_mem hl
  have e : Ext hp S μ K h hp' S μ K (h.set id { o with gen := g, els := els }) := by
    refine ⟨by omega, fun b _ hno => ho b (fun e => hno id o hl e.symm), fun b hb => hb, fun id' o1 hm => ?_, Nat.le_refl _, fun id' o' hl' => ?_, fun b hb => .inl hb⟩
    · by_cases e : id' = id
      · subst e
        rw [hm0] at hm; cases hm
        exact ⟨_, Tr.get_put _ _ _, hg, fun _ _ => ⟨hlive, rfl, rfl, rfl, rfl⟩⟩
      · exact ⟨o1, by rw [Heap.set, Tr.get_put_ne _ _ e]; exact hm, Nat.le_refl _, fun _ hl => ⟨hl, rfl, rfl, rfl, rfl⟩⟩
    · rcases Heap.look_put hl' with ⟨rfl, _, _⟩ | ⟨e, hl''⟩
      · exact .inr ⟨o, hl, rfl⟩
      · exact .inr ⟨o', hl'', rfl⟩
  refine ⟨e, fun id' o1 hm => ?_, fun id' o1 hl' => ?_, fun i1 o1 i2 o2 h1 h2 hm => ?_, fun id' o1 hl' hb' => ?_, fun b hb' => by have := hr.bnd b hb'; omega⟩
  · by_cases e : id' = id
    · subst e; exact hr.wf id' o hm0
    · rw [Heap.set, Tr.get_put_ne _ _ e] at hm
      exact hr.wf id' o1 hm
  · obtain ⟨_, _, _, _, hk2, _⟩ := hr.obj id o hl
    rcases Heap.look_put hl' with ⟨rfl, rfl, _⟩ | ⟨e1, hl''⟩
    · refine ⟨cs', hb, hcs, hk, hk2, fun i el hi => ⟨(hels i el hi).1, fun j c hj => ?_⟩⟩
      obtain ⟨v, hv, hc⟩ := (hels i el hi).2 j c hj
      exact ⟨v, hv, hc.ext hr e⟩
    · obtain ⟨cs2, h1, h2, h3, h4, h5⟩ := hr.obj id' o1 hl''
      refine ⟨cs2, ?_, h2, h3, h4, fun i el hi => ⟨(h5 i el hi).1, fun j c hj => ?_⟩⟩
      · rw [ho]; exact h1
        intro e2
        exact e1 (hr.inj _ _ _ _ hl'' hl e2)
      · obtain ⟨v, hv, hc⟩ := (h5 i el hi).2 j c hj
        exact ⟨v, hv, hc.ext hr e⟩
  · rcases Heap.look_put h1 with ⟨rfl, _, _⟩ | ⟨e1, h1'⟩ <;> rcases Heap.look_put h2 with ⟨rfl, _, _⟩ | ⟨e2, h2'⟩
    · rfl
    · exact (hr.inj _ _ _ _ hl h2' hm)
    · exact (hr.inj _ _ _ _ h1' hl hm)
    · exact hr.inj _ _ _ _ h1' h2' hm
  · rcases Heap.look_put hl' with ⟨rfl, _, _⟩ | ⟨e1, hl''⟩
    · exact hr.sep _ _ hl hb'
    · exact hr.sep _ _ hl'' hb'

theorem Heap.look_kill {h : Heap} {id id' : Nat} {o' : Obj} (hl : (h.kill id).look id' = some o') : id' ≠ id ∧ h.look id' = some o' := by
  unfold Heap.kill at hl
  split at hl
  · rename_i o hm
    rcases Heap.look_put hl with ⟨rfl, rfl, hv⟩ | h1
    · simp at hv
    · exact h1
  · rename_i hm
    refine ⟨fun e => ?_, hl⟩
    subst e
    have := (Heap.look_mem hl).1
    rw [hm] at this; cases this

theorem Heap.kill_mem {h : Heap} {id id' : Nat} {o : Obj} (hm : h.mem.get id' = some o) : ∃ o', (h.kill id).mem.get id' = some o' ∧ o'.gen = o.gen ∧ (o'.live = true → o' = o) := by
  unfold Heap.kill
  split
  · rename_i o1 hm1
    by_cases e : id' = id
    · subst e
      rw [hm1] at hm; cases hm
      exact ⟨{ o with live := false }, by simp [Heap.set], rfl, fun hl => by simp at hl⟩
    · exact ⟨o, by rw [Heap.set, Tr.get_put_ne _ _ e]; exact hm, rfl, fun _ => rfl⟩
  · exact ⟨o, hm, rfl, fun _ => rfl⟩

theorem Heap.kill_next (h : Heap) (id : Nat) : (h.kill id).next = h.next := by unfold Heap.kill; split <;> rfl

theorem Heap.kill_wf {h : Heap} {id id' : Nat} {o : Obj} (hm : (h.kill id).mem.get id' = some o) : ∃ o', h.mem.get id' = some o' := by
  unfold Heap.kill at hm
  split at hm
  · rename_i o1 hm1
    by_cases e : id' = id
    · subst e; exact ⟨o1, hm1⟩
    · rw [Heap.set, Tr.get_put_ne _ _ e] at hm; exact ⟨o, hm⟩
  · exact ⟨o, hm⟩

/-- an object is given up: its block will not be written any more -/
theorem kill1 (hr : HeapRel hp S μ K h) (id : Nat) :
    Ext hp S μ K h hp (fun b => S b ∨ ∃ o, h.look id = some o ∧ μ id = b) μ K (h.kill id) ∧ HeapRel hp (fun b => S b ∨ ∃ o, h.look id = some o ∧ μ id = b) μ K (h.kill id) := by
  have e : Ext hp S μ K h hp (fun b => S b ∨ ∃ o, h.look id = some o ∧ μ id = b) μ K (h.kill id) := by
    refine ⟨Nat.le_refl _, fun _ _ _ => rfl, fun b hb => .inl hb, fun id' o hm => ?_, by rw [Heap.kill_next]; exact Nat.le_refl _, fun id' o' hl => .inr ⟨o', (Heap.look_kill hl).2, rfl⟩, fun b hb => ?_⟩
    · obtain ⟨o', h1, h2, h3⟩ := Heap.kill_mem (id := id) hm
      exact ⟨o', h1, by omega, fun _ hl => by have := h3 hl; subst this; exact ⟨hl, rfl, rfl, rfl, rfl⟩⟩
    · rcases hb with hb | ⟨o, ho, hb⟩
      · exact .inl hb
      · exact .inr (.inr ⟨id, o, ho, hb⟩)
  refine ⟨e, fun id' o hm => ?_, fun id' o hl => ?_, fun i1 o1 i2 o2 h1 h2 hm => hr.inj _ _ _ _ (Heap.look_kill h1).2 (Heap.look_kill h2).2 hm, fun id' o hl hb => ?_, fun b hb => ?_⟩
  · obtain ⟨o', hm'⟩ := Heap.kill_wf hm
    rw [Heap.kill_next]; exact hr.wf id' o' hm'
  · obtain ⟨cs', h1, h2, h3, h4, h5⟩ := hr.obj id' o (Heap.look_kill hl).2
    refine ⟨cs', h1, h2, h3, h4, fun i el hi => ⟨(h5 i el hi).1, fun j c hj => ?_⟩⟩
    obtain ⟨v, hv, hc⟩ := (h5 i el hi).2 j c hj
    exact ⟨v, hv, hc.ext hr e⟩
  · rcases hb with hb | ⟨o1, ho1, hb⟩
    · exact hr.sep _ _ (Heap.look_kill hl).2 hb
    · exact (Heap.look_kill hl).1 (hr.inj _ _ _ _ (Heap.look_kill hl).2 ho1 hb.symm)
  · rcases hb with hb | ⟨o, ho, hb⟩
    · exact hr.bnd b hb
    · exact hb ▸ hr.lt ho

theorem killAll (ids : List Nat) : ∀ {S : Nat → Prop} {h : Heap}, HeapRel hp S μ K h →
    ∃ S', (∀ b, S' b ↔ S b ∨ ∃ id o, id ∈ ids ∧ h.look id = some o ∧ μ id = b) ∧ Ext hp S μ K h hp S' μ K (h.killAll ids) ∧ HeapRel hp S' μ K (h.killAll ids) := by
  induction ids with
  | nil => exact fun {S h} hr => ⟨S, fun b => by simp, Ext.refl _ _ _ _ _, hr⟩
  | cons id r ih =>
    intro S h hr
    obtain ⟨e1, hr1⟩ := kill1 hr id
    obtain ⟨S', hS, e2, hr2⟩ := ih hr1
    refine ⟨S', fun b => ?_, e1.trans e2, hr2⟩
    rw [hS]
    constructor
    · rintro ((hb | ⟨o, ho, hb⟩) | ⟨id', o, hm, ho, hb⟩)
      · exact .inl hb
      · exact .inr ⟨id, o, by simp, ho, hb⟩
      · exact .inr ⟨id', o, by simp [hm], (Heap.look_kill ho).2, hb⟩
    · rintro (hb | ⟨id', o, hm, ho, hb⟩)
      · exact .inl (.inl hb)
      · by_cases e : id' = id
        · subst e; exact .inl (.inr ⟨o, ho, hb⟩)
        · refine .inr ⟨id', o, by simpa [e] using hm, ?_, hb⟩
          obtain ⟨hm1, hl1⟩ := Heap.look_mem ho
          unfold Heap.kill
          split
          · exact Heap.look_of (by rw [Heap.set, Tr.get_put_ne _ _ e]; exact hm1) hl1
          · exact ho

end Go.AI

/- From the model's code to the interpreter's: checked operation by operation, by a program's tables. -/
namespace Go.AI
open Go

structure CEnv where
  slot : Tmp → Option Nat
  loc : Tmp → Option Nat
  boxk : Tmp → Option Nat
  boxv : Tmp → Bool
  litA : Tmp → Bool
  mode : FuncId → Tmp → Bool

def C.ofValue : Value → Option C
  | .bool b => some (.bool b)
  | .int k n => some (.int k n)
  | .string s => some (.str s.data.toList)
  | .pointer none => some .nilp
  | .slice none 0 0 => some .nils
  | _ => none

def V.ofValue : Value → Option V
  | .agg cs => (cs.toList.mapM C.ofValue).map .agg
  | v => (C.ofValue v).map .one

def CEnv.res (e : CEnv) : Operand → Option Opd
  | .tmp t =>
    match e.loc t with
    | some i => some (.loc i)
    | none => (e.slot t).map .var
  | .const v => (V.ofValue v).map .cst
  | .func f => some (.fnc f)
  | .global _ => none

def CEnv.resO (e : CEnv) : Option Operand → Option (Option Opd)
  | none => some none
  | some x => (e.res x).map some

def CEnv.resL (e : CEnv) : List Operand → Option (List Opd)
  | [] => some []
  | x :: r =>
    match e.res x, e.resL r with
    | some y, some s => some (y :: s)
    | _, _ => none

def isAggD : TypeDesc → Bool
  | .struct _ | .array _ _ => true
  | _ => false

/-- how a value of a type is loaded: as one cell, or as so many -/
def loadN (P : Program) (t : TypeId) : Option (Option Nat) :=
  match P.underlying t, P.info? t with
  | some d, some i => if isAggD d then some (some i.size) else if i.size = 1 then some none else none
  | _, _ => none

def zeroOf (P : Program) (t : TypeId) : Option (List C) :=
  match P.info? t with
  | some i =>
    match i.zero with
    | some z => (z.cells.toList.mapM C.ofValue).bind fun cs => if cs.length = i.size then some cs else none
    | none => none
  | none => none

def sizeP (P : Program) (t : TypeId) : Option Nat := (P.info? t).map (·.size)

def fieldsOf (P : Program) (t : TypeId) : Option (Array Field) :=
  match P.underlying t with
  | some (.struct fs) => some fs
  | _ => none

def elemOf? (P : Program) (t : TypeId) : Option TypeId :=
  match P.underlying t with
  | some (.slice e) => some e
  | _ => none

def eqTy (P : Program) (t : TypeId) : EqTy :=
  match P.underlying t with
  | some .bool => .bool
  | some (.pointer _) => .ptr
  | _ => .num

def partsC (P : Program) (e : CEnv) (fs : Array Field) : List (Nat × Operand) → Option (List (Nat × Nat × Opd))
  | [] => some []
  | (i, x) :: r =>
    match fs[i]?, e.res x, partsC P e fs r with
    | some f, some y, some s => (sizeP P f.type).map fun n => (f.offset, n, y) :: s
    | _, _, _ => none

def litC (e : CEnv) : List (Nat × Operand) → Option (List (Nat × Opd))
  | [] => some []
  | (i, x) :: r =>
    match e.res x, litC e r with
    | some y, some s => some ((i, y) :: s)
    | _, _ => none

def dstT (o : Oper) : Nat := o.dst.getD 0

/-- the zero value of a variable -/
def allocV : Option Nat → List C → V
  | none, [c] => .one c
  | _, z => .agg z

def compileOp (P : Program) (e : CEnv) (o : Oper) : Option AOp :=
  match o.op with
  | .move x => (e.res x).map .mov
  | .assign x => (e.res x).map .mov
  | .pick c a b =>
    match e.res c, e.res a, e.res b with
    | some c, some a, some b => some (.pick c a b)
    | _, _, _ => none
  | .alloc t =>
    match zeroOf P t, sizeP P t, loadN P t with
    | some z, some n, some l =>
      let x : Opd := .cst (allocV l z)
      if e.boxv (dstT o) then (e.slot (dstT o)).map fun s => .boxV s t n x else
      match e.boxk (dstT o) with
      | some k => some (.boxS k t n x)
      | none => some (.boxD t n x)
    | _, _, _ => none
  | .box t x =>
    match e.res x, sizeP P t with
    | some y, some n =>
      if e.boxv (dstT o) then (e.slot (dstT o)).map fun s => .boxV s t n y else
      match e.boxk (dstT o) with
      | some k => some (.boxS k t n y)
      | none => some (.boxD t n y)
    | _, _ => none
  | .build t ps =>
    match fieldsOf P t, zeroOf P t with
    | some fs, some z =>
      match fs.toList.mapM (fun f => (P.info? f.type).map fun i => (f.offset, i.size)) with
      | some _ => (partsC P e fs ps.toList).map fun l => .build z l
      | none => none
    | _, _ => none
  | .buildSlice t len ps =>
    match elemOf? P t with
    | some el =>
      match zeroOf P el, sizeP P el, litC e ps.toList with
      | some z, some n, some l => if len * n ≤ 2 ^ 24 ∧ 0 < n then (if e.litA (dstT o) then some (.litD el n len z l) else some (.lit n len z l)) else none
      | _, _, _ => none
    | none => none
  | .load t x =>
    match loadN P t, e.res x with
    | some n, some y => some (.load n y)
    | _, _ => none
  | .store t p x =>
    match e.res p, e.res x, sizeP P t with
    | some q, some y, some n => some (.store n q y)
    | _, _, _ => none
  | .nilCheck x => (e.res x).map .nilCheck
  | .binOp op t x y _ =>
    match e.res x, e.res y with
    | some a, some b => some (.bin op (eqTy P t) a b)
    | _, _ => none
  | .unOp .not _ x => (e.res x).map .not
  | .convert src dst x =>
    match P.underlying dst, P.underlying src, e.res x with
    | some (.int k), some _, some y => some (.conv k y)
    | some .string, some (.slice el), some y => match P.underlying el with | some (.int .u8) => some (.strOf y) | _ => none
    | _, _, _ => none
  | .makeFunc (.func f) first caps => if first.isEmpty then (e.resL caps.toList).map fun l => .mkfn f l else none
  | .makeSlice t l c =>
    match elemOf? P t with
    | some el =>
      match zeroOf P el, P.info? el, e.res l, e.res c with
      | some z, some i, some y, some u => some (.mkSlice el i.size i.bytes z y u)
      | _, _, _, _ => none
    | none => none
  | .slice t x lo hi none =>
    match P.underlying t, e.res x, e.resO lo, e.resO hi with
    | some (.slice el), some y, some l, some u => (P.info? el).map fun i => .slice false i.size y l u
    | some .string, some y, some l, some u => some (.slice true 0 y l u)
    | _, _, _, _ => none
  | .fieldAddr s x f =>
    match fieldsOf P s with
    | some fs =>
      match fs[f]? with
      | some fd => match sizeP P fd.type, e.res x with
        | some n, some y => if n = 0 then none else some (.fieldAddr fd.offset y)
        | _, _ => none
      | none => none
    | none => none
  | .field s x f =>
    match fieldsOf P s with
    | some fs =>
      match fs[f]? with
      | some fd => match loadN P fd.type, e.res x with
        | some n, some y => some (.field fd.offset n y)
        | _, _ => none
      | none => none
    | none => none
  | .indexAddr t x i =>
    match elemOf? P t with
    | some el => match sizeP P el, e.res x, e.res i with
      | some n, some y, some j => some (.indexAddr n y j)
      | _, _, _ => none
    | none => none
  | .index t x i =>
    match P.underlying t, e.res x, e.res i with
    | some .string, some y, some j => some (.index y j)
    | _, _, _ => none
  | .extract x i => (e.res x).map fun y => .extract y i
  | .call { callee := .builtin .len, args, argTypes } =>
    match args.toList, argTypes.toList with
    | [x], [t] =>
      match P.underlying t, e.res x with
      | some (.slice _), some y => some (.len false y)
      | some .string, some y => some (.len true y)
      | _, _ => none
    | _, _ => none
  | .call { callee := .builtin .cap, args, argTypes } =>
    match args.toList, argTypes.toList with
    | [x], [t] =>
      match P.underlying t, e.res x with
      | some (.slice _), some y => some (.cap y)
      | _, _ => none
    | _, _ => none
  | .call { callee := .builtin .panic, .. } => some .bad
  | .makeInterface .. => some .bad
  | .panic .. => some .bad
  | .call { callee := .builtin .append, args, argTypes } =>
    match args.toList, argTypes.toList with
    | [x, y], [t, u] =>
      if t = u then
      match elemOf? P t with
      | some el => match P.info? el, zeroOf P el, e.res x, e.res y with
        | some i, some _, some a, some b => if 0 < i.size ∧ 0 < i.bytes then some (.append el i.size i.bytes a b) else none
        | _, _, _, _ => none
      | none => none
      else
      match P.underlying u, elemOf? P t with
      | some (.int _), some el => match P.info? el, zeroOf P el, e.res x, e.res y with
        | some i, some z, some a, some b => if 0 < i.size ∧ 0 < i.bytes then some (.appendZ el i.size i.bytes z a b) else none
        | _, _, _, _ => none
      | _, _ => none
    | _, _ => none
  | .call { callee := .builtin .max, args, .. } =>
    match args.toList with
    | [x, y] => match e.res x, e.res y with
      | some a, some b => some (.minmax true a b)
      | _, _ => none
    | _ => none
  | .call { callee := .builtin .min, args, .. } =>
    match args.toList with
    | [x, y] => match e.res x, e.res y with
      | some a, some b => some (.minmax false a b)
      | _, _ => none
    | _ => none
  | .call { callee := .value (.func f), args, .. } => (e.resL args.toList).map fun l => .call f l (e.mode f (dstT o))
  | .call { callee := .value x, args, .. } =>
    match e.res x, e.resL args.toList with
    | some y, some l => some (.callV y l)
    | _, _ => none
  | _ => none

end Go.AI

/- One operation of the model does what the interpreter says of it: the operations that only reckon, read, store and make boxes. -/
namespace Go.AI
open Go

/-- the outside world is as it was -/
def Same (w w' : World) : Prop := w'.os = w.os ∧ w'.tape = w.tape ∧ w'.output = w.output
theorem Same.refl (w : World) : Same w w := ⟨rfl, rfl, rfl⟩
theorem Same.trans {a b c : World} (h : Same a b) (k : Same b c) : Same a c := ⟨k.1.trans h.1, k.2.1.trans h.2.1, k.2.2.trans h.2.2⟩

/-- what is asked of one operation -/
def Sound (P : Program) (w : World) (S : Nat → Prop) (μ K : Nat → Nat) (h : Heap) (s : Sem Next) (v : V) (h' : Heap) : Prop :=
  ∃ (val : Value) (w' : World) (S' : Nat → Prop) (μ' K' : Nat → Nat), (s.run P w = .ok (.value val) w' ∨ (s.run P w = .ok .skip w' ∧ v = .undef ∧ val = undef)) ∧
    VR w'.heap S' μ' K' h' v val ∧ Ext w.heap S μ K h w'.heap S' μ' K' h' ∧ HeapRel w'.heap S' μ' K' h' ∧ Same w w'

variable {P : Program} {w : World} {S : Nat → Prop} {μ K : Nat → Nat} {h : Heap}

theorem Sound.pure {s : Sem Next} {v : V} {val : Value} (hr : HeapRel w.heap S μ K h) (hrun : s.run P w = .ok (.value val) w) (hv : VR w.heap S μ K h v val) : Sound P w S μ K h s v h :=
  ⟨val, w, S, μ, K, .inl hrun, hv, Ext.refl _ _ _ _ _, hr, Same.refl w⟩

def ERel (e : CEnv) (hp : Array Go.Obj) (S : Nat → Prop) (μ K : Nat → Nat) (st : St) (locs : Tr V) (a : Act) : Prop :=
  ∀ (t : Tmp) (x : Opd), e.res (.tmp t) = some x → VR hp S μ K st.heap (ev st locs x) (a.eval (.tmp t))

theorem bytes_mk (s : ByteArray) : (⟨s.data.toList.toArray⟩ : ByteArray) = s := by cases s; simp

theorem C.ofValue_rel {hp : Array Go.Obj} {v : Value} {c : C} (hc : C.ofValue v = some c) : CR hp S μ K h c v := by
  unfold C.ofValue at hc
  split at hc <;> cases hc
  · exact .deep (.bool _)
  · exact .deep (.int _ _)
  · rename_i s
    have := DR.str (hp := hp) (S := S) s.data.toList
    rw [bytes_mk] at this
    exact .deep this
  · exact .nilp
  · exact .nils _

theorem mapM_some {α β : Type} {f : α → Option β} : ∀ {l : List α} {r : List β}, l.mapM f = some r → l.length = r.length ∧ ∀ (i : Nat) (x : α) (y : β), l[i]? = some x → r[i]? = some y → f x = some y
  | [], r, h => by simp at h; subst h; simp
  | a :: l, r, h => by
    simp only [List.mapM_cons, Option.bind_eq_bind, Option.pure_def] at h
    cases ha : f a with
    | none => simp [ha] at h
    | some b =>
      cases hl : l.mapM f with
      | none => simp [ha, hl] at h
      | some s =>
        simp [ha, hl] at h
        subst h
        have ih := mapM_some hl
        refine ⟨by simp [ih.1], fun i x y hx hy => ?_⟩
        cases i with
        | zero => simp at hx hy; subst hx; subst hy; exact ha
        | succ i => simp at hx hy; exact ih.2 i x y hx hy

theorem mapM_ofValue {hp : Array Go.Obj} {l : List Value} {cs : List C} (hm : l.mapM C.ofValue = some cs) : CRs hp S μ K h cs l :=
  ⟨(mapM_some hm).1.symm, fun i c v h1 h2 => C.ofValue_rel ((mapM_some hm).2 i v c h2 h1)⟩

theorem V.ofValue_rel {hp : Array Go.Obj} {v : Value} {u : V} (hc : V.ofValue v = some u) : VR hp S μ K h u v := by
  unfold V.ofValue at hc
  split at hc
  · rename_i cs
    cases hm : cs.toList.mapM C.ofValue with
    | none => rw [hm] at hc; cases hc
    | some l =>
      rw [hm] at hc; cases hc
      exact .agg (mapM_ofValue hm)
  · cases hm : C.ofValue v with
    | none => rw [hm] at hc; cases hc
    | some c =>
      rw [hm] at hc; cases hc
      exact .one (C.ofValue_rel hm)

theorem ERel.res {e : CEnv} {hp : Array Go.Obj} {st : St} {locs : Tr V} {a : Act} (he : ERel e hp S μ K st locs a) {o : Operand} {x : Opd} (hx : e.res o = some x) :
    VR hp S μ K st.heap (ev st locs x) (a.eval o) := by
  cases o with
  | tmp t => exact he t x hx
  | const v =>
    simp only [CEnv.res] at hx
    cases hv : V.ofValue v with
    | none => rw [hv] at hx; cases hx
    | some u => rw [hv] at hx; cases hx; exact V.ofValue_rel hv
  | global g => cases hx
  | func f =>
    cases hx
    exact .one (.fn f [] #[] rfl (fun _ => default) (fun i c hi => by simp at hi) (fun i c hi => by simp at hi))

/-! ### what a related value is -/
theorem VR.int {hp : Array Go.Obj} {v : V} {val : Value} (hv : VR hp S μ K h v val) {n : Int} (hn : asInt? v = some n) : ∃ k, v = .one (.int k n) ∧ val = .int k n := by
  unfold asInt? at hn
  split at hn
  · rename_i k m
    cases hn
    cases hv with
    | one hc => cases hc with | deep hd => cases hd; exact ⟨_, rfl, rfl⟩
  · cases hn

theorem VR.bool {hp : Array Go.Obj} {v : V} {val : Value} (hv : VR hp S μ K h v val) {b : Bool} (hn : asBool? v = some b) : v = .one (.bool b) ∧ val = .bool b := by
  unfold asBool? at hn
  split at hn
  · cases hn
    cases hv with
    | one hc => cases hc with | deep hd => cases hd; exact ⟨rfl, rfl⟩
  · cases hn

theorem VR.cells {hp : Array Go.Obj} {v : V} {val : Value} (hv : VR hp S μ K h v val) {cs : List C} (hc : v.cells = some cs) :
    CRs hp S μ K h cs val.cells.toList ∧ ∀ u ∈ val.cells.toList, u.oneCell' = true := by
  unfold V.cells at hc
  split at hc
  · cases hc
    cases hv with
    | one h1 =>
      have ho := h1.oneCell
      have e : val.cells = #[val] := by cases val <;> first | rfl | (simp [Value.oneCell'] at ho)
      rw [e]
      refine ⟨⟨rfl, fun i c v hi hv => ?_⟩, fun u hu => by simp at hu; exact hu ▸ ho⟩
      cases i with
      | zero => simp at hi hv; subst hi; subst hv; exact h1
      | succ i => simp at hi
  · cases hc
    cases hv with
    | @agg cs vs h1 =>
      refine ⟨h1, fun u hu => ?_⟩
      have hu2 : u ∈ vs.toList := hu
      obtain ⟨i, hi, hu⟩ := List.getElem_of_mem hu2
      have hlt : i < cs.length := by rw [h1.1]; exact hi
      have hu' : vs.toList[i]? = some u := by rw [List.getElem?_eq_getElem hi, hu]
      exact (h1.2 i cs[i] u (List.getElem?_eq_getElem hlt) hu').oneCell
  · cases hc

theorem CRs.get {hp : Array Go.Obj} {cs : List C} {vs : List Value} (hc : CRs hp S μ K h cs vs) {i : Nat} {c : C} (hi : cs[i]? = some c) : ∃ v, vs[i]? = some v ∧ CR hp S μ K h c v := by
  have hlt : i < cs.length := (List.getElem?_eq_some_iff.1 hi).1
  have hlt2 : i < vs.length := hc.1 ▸ hlt
  exact ⟨vs[i], List.getElem?_eq_getElem hlt2, hc.2 i c _ hi (List.getElem?_eq_getElem hlt2)⟩

/-! ### boxes -/
theorem run_box (P : Program) (w : World) (t : TypeId) (v : Value) : (Instr.box t v).run P w = .ok (.pointer (some ⟨w.heap.size, 0, none⟩)) (w.alloc (.cells v.cells t)) := by
  simp [Instr.box, newVar, newRow]

theorem holds_one {hp : Array Go.Obj} {cs : List C} {vs : Array Value} {n : Nat} (hc : CRs hp S μ K h cs vs.toList) (hn : cs.length = n) : Holds hp S μ K h n [cs] vs := by
  intro i el hi
  cases i with
  | succ i => simp at hi
  | zero =>
    simp at hi; subst hi
    refine ⟨hn, fun j c hj => ?_⟩
    obtain ⟨v, hv, hcr⟩ := hc.get hj
    exact ⟨v, by simpa using hv, hcr⟩

theorem box_sound {n : Nat} (hr : HeapRel w.heap S μ K h) (s : Sem Next) (t : TypeId) (v : Value) (hs : s.run P w = .ok (.value (.pointer (some ⟨w.heap.size, 0, none⟩))) (w.alloc (.cells v.cells t)))
    {cs : List C} (hc : CRs w.heap S μ K h cs v.cells.toList) (hn : cs.length = n) (id nx : Nat) (hid : id < nx) (hnx : h.next ≤ nx) :
    Sound P w S μ K h s (.one (.ptr id (h.fresh id) 0 0)) { next := nx, mem := h.mem.put id { gen := h.fresh id, ty := t, sz := n, live := true, els := [cs] } } := by
  have hsz : v.cells.size = n := by have := hc.1; simp at this; omega
  obtain ⟨e, hr'⟩ := install hr id nx t n 1 [cs] v.cells hid hnx (by omega) (by simp) (by omega) (holds_one hc hn)
  refine ⟨_, _, S, _, _, .inl hs, .one (.ptr id (h.fresh id) 0 0 _ _ (Tr.get_put _ _ _) (Nat.le_refl _) (fun _ _ => ?_)), e, hr', ⟨rfl, rfl, rfl⟩⟩
  simp

theorem elsAt {hp : Array Go.Obj} {o : Obj} {id el : Nat} {cs : List C} (hr : HeapRel hp S μ K h) (hl : h.look id = some o) (hi : o.els[el]? = some cs) :
    cs.length = o.sz ∧ ∀ (j : Nat) (c : C), cs[j]? = some c → ∃ v, rd hp (μ id) (el * o.sz + j) = some v ∧ CR hp S μ K h c v := by
  obtain ⟨cv, h1, h2, h3, h4, h5⟩ := hr.obj id o hl
  obtain ⟨hlen, hx⟩ := h5 el cs hi
  refine ⟨hlen, fun j c hj => ?_⟩
  obtain ⟨v, hv, hc⟩ := hx j c hj
  exact ⟨v, by simp only [rd, h1]; exact hv, hc⟩

/-! ### loading -/
theorem loadN_none {t : TypeId} (hn : loadN P t = some none) : ∃ d, P.underlying t = some d ∧ isAggD d = false := by
  unfold loadN at hn
  split at hn
  · rename_i d i hu _
    cases hd : isAggD d with
    | false => exact ⟨d, hu, hd⟩
    | true => simp [hd] at hn
  · cases hn

theorem loadN_some {t : TypeId} {n : Nat} (hn : loadN P t = some (some n)) : ∃ d i, P.underlying t = some d ∧ isAggD d = true ∧ P.info? t = some i ∧ i.size = n := by
  unfold loadN at hn
  split at hn
  · rename_i d i hu hi
    cases hd : isAggD d with
    | true => simp [hd] at hn; exact ⟨d, i, hu, hd, hi, hn⟩
    | false => simp [hd] at hn
  · cases hn

theorem run_isAgg {t : TypeId} {d : TypeDesc} (hu : P.underlying t = some d) (w : World) : (isAgg t).run P w = .ok (isAggD d) w := by
  simp only [isAgg, Sem.run_bind, run_underlying hu, Result.andThen_ok]
  cases d <;> rfl

theorem addr_add (b o j : Nat) : (⟨b, o, none⟩ : Addr).add j = ⟨b, o + j, none⟩ := by unfold Addr.add; split <;> simp_all

/-- cells that stand one behind the other in memory, read as a value -/
theorem load_rel {t : TypeId} {n : Option Nat} (hn : loadN P t = some n) {el : List C} {off b o : Nat} {v : V} (hv : cellsAt el off n = some v)
    (hc : ∀ (j : Nat) (c : C), el[j]? = some c → ∃ u, rd w.heap b (o + j) = some u ∧ CR w.heap S μ K h c u) :
    ∃ val, (loadVar t ⟨b, o + off, none⟩).run P w = .ok val w ∧ VR w.heap S μ K h v val := by
  cases n with
  | none =>
    obtain ⟨d, hu, hd⟩ := loadN_none hn
    simp only [cellsAt, Option.map_eq_some_iff] at hv
    obtain ⟨c, hc1, rfl⟩ := hv
    obtain ⟨u, hu1, hcr⟩ := hc off c hc1
    refine ⟨u, ?_, .one hcr⟩
    simp [loadVar, run_isAgg hu, hd, cell_rd, hu1]
  | some n =>
    obtain ⟨d, i, hu, hd, hi, hin⟩ := loadN_some hn
    simp only [cellsAt] at hv
    split at hv
    · rename_i hle
      cases hv
      have hall : ∀ j, j < n → ∃ u, rd w.heap b (o + off + j) = some u ∧ ∀ c, el[off + j]? = some c → CR w.heap S μ K h c u := fun j hj => by
        have hlt : off + j < el.length := by omega
        obtain ⟨u, h1, h2⟩ := hc (off + j) el[off + j] (List.getElem?_eq_getElem hlt)
        refine ⟨u, by rw [Nat.add_assoc]; exact h1, fun c hc' => ?_⟩
        rw [List.getElem?_eq_getElem hlt] at hc'; cases hc'; exact h2
      let f : Nat → Value := fun j => ((rd w.heap b (o + off + j))).getD undef
      have hf : ∀ j, j < n → rd w.heap b (o + off + j) = some (f j) := fun j hj => by
        obtain ⟨u, h1, _⟩ := hall j hj; simp [f, h1]
      refine ⟨.agg ((List.range n).map f).toArray, ?_, .agg ⟨by simp; omega, fun j c u h1 h2 => ?_⟩⟩
      · have hl := run_loadCells (P := P) w ⟨b, o + off, none⟩ n f (fun j hj => by rw [addr_add, cell_rd]; exact hf j hj)
        simp [loadVar, run_isAgg hu, hd, sizeOf, typeInfo, hi, hin, hl]
      · simp only [List.getElem?_map, Option.map_eq_some_iff] at h2
        obtain ⟨j', hj', rfl⟩ := h2
        rw [List.getElem?_range] at hj'
        · cases hj'
          have hjn : j < n := by
            rcases Nat.lt_or_ge j n with h3 | h3
            · exact h3
            · simp [List.getElem?_take, Nat.not_lt.2 h3] at h1
          obtain ⟨u', hu1, hu2⟩ := hall j hjn
          have : f j = u' := by simp [f, hu1]
          rw [this]
          refine hu2 c ?_
          simpa [List.getElem?_take, hjn, List.getElem?_drop] using h1
        · rcases Nat.lt_or_ge j n with h3 | h3
          · exact h3
          · simp [List.getElem?_take, Nat.not_lt.2 h3] at h1
    · cases hv

theorem ptr_inv {hp : Array Go.Obj} {id gen el off : Nat} {val : Value} (hv : VR hp S μ K h (.one (.ptr id gen el off)) val) {o : Obj} (ha : h.at id gen = some o) :
    val = .pointer (some ⟨μ id, el * o.sz + off, none⟩) := by
  obtain ⟨hl, hg⟩ := Heap.at_look ha
  obtain ⟨hm, hlive⟩ := Heap.look_mem hl
  cases hv with
  | one hc =>
    cases hc with
    | deep hd => cases hd
    | ptr id gen el off a o' hm' hg' ho =>
      rw [hm] at hm'; cases hm'
      rw [ho hg hlive]

theorem sl_inv {hp : Array Go.Obj} {id gen off len : Nat} {val : Value} (hv : VR hp S μ K h (.one (.sl id gen off len)) val) : ∃ A cap, val = .slice A len cap ∧
    ∀ o, h.at id gen = some o → (A = some ⟨μ id, off * o.sz, none⟩ ∨ (cap = 0 ∧ ∃ a, A = some a)) ∧ off + cap = K id ∧ len ≤ cap := by
  cases hv with
  | one hc =>
    cases hc with
    | deep hd => cases hd
    | sl id gen off len A cap o' hm' hg' ho =>
      refine ⟨A, cap, rfl, fun o ha => ?_⟩
      obtain ⟨hl, hg⟩ := Heap.at_look ha
      obtain ⟨hm, hlive⟩ := Heap.look_mem hl
      rw [hm] at hm'; cases hm'
      exact ho hg hlive

end Go.AI

/- One operation of the model does what the interpreter says of it: stores, slices, reckonings. -/
namespace Go.AI
open Go

variable {P : Program} {w : World} {S : Nat → Prop} {μ K : Nat → Nat} {h : Heap}

theorem splice_get {α : Type} (l vs : List α) (s k : Nat) (hs : s + vs.length ≤ l.length) :
    (l.take s ++ vs ++ l.drop (s + vs.length))[k]? = if k < s then l[k]? else if k < s + vs.length then vs[k - s]? else l[k]? := by
  rw [List.append_assoc, List.getElem?_append]
  simp only [List.length_take]
  have e : min s l.length = s := by omega
  rw [e]
  by_cases h1 : k < s
  · simp [h1]
  · simp only [h1, if_false]
    rw [List.getElem?_append]
    by_cases h2 : k < s + vs.length
    · rw [if_pos (by omega), if_pos h2]
    · rw [if_neg (by omega), if_neg h2, List.getElem?_drop]
      congr 1; omega

theorem mul_lt_row {i el sz j off : Nat} (h1 : i < el) (h2 : j < sz) : i * sz + j < el * sz + off := by
  have : (i + 1) * sz ≤ el * sz := Nat.mul_le_mul_right _ h1
  rw [Nat.add_mul] at this; omega

theorem Holds.write {hp : Array Go.Obj} {sz el off : Nat} {els : List (List C)} {e cs : List C} {cur : Array Value} {vs : List Value} (hold : Holds hp S μ K h sz els cur) (he : els[el]? = some e)
    (hc : CRs hp S μ K h cs vs) (hoff : off + cs.length ≤ sz) (hfit : el * sz + off + vs.length ≤ cur.size) :
    Holds hp S μ K h sz (els.set el (writeAt e off cs)) (cur.toList.take (el * sz + off) ++ vs ++ cur.toList.drop (el * sz + off + vs.length)).toArray := by
  have hlen : cs.length = vs.length := hc.1
  have hel : e.length = sz := (hold el e he).1
  have hw : ∀ j, (writeAt e off cs)[j]? = if j < off then e[j]? else if j < off + cs.length then cs[j - off]? else e[j]? := fun j => splice_get e cs off j (by omega)
  have hcur : ∀ k, (cur.toList.take (el * sz + off) ++ vs ++ cur.toList.drop (el * sz + off + vs.length)).toArray[k]? =
      if k < el * sz + off then cur[k]? else if k < el * sz + off + vs.length then vs[k - (el * sz + off)]? else cur[k]? := fun k => by
    have := splice_get cur.toList vs (el * sz + off) k (by simpa using hfit)
    simpa using this
  intro i x hi
  by_cases e1 : i = el
  · subst e1
    have hlt : i < els.length := (List.getElem?_eq_some_iff.1 he).1
    rw [List.getElem?_set_self hlt] at hi
    cases hi
    refine ⟨by simp [writeAt]; omega, fun j c hj => ?_⟩
    rw [hw] at hj
    rw [hcur]
    by_cases h1 : j < off
    · rw [if_pos h1] at hj
      rw [if_pos (by omega)]
      exact (hold i e he).2 j c hj
    · rw [if_neg h1] at hj
      rw [if_neg (by omega)]
      by_cases h2 : j < off + cs.length
      · rw [if_pos h2] at hj
        rw [if_pos (by omega)]
        have e2 : i * sz + j - (i * sz + off) = j - off := by omega
        rw [e2]
        exact hc.get hj
      · rw [if_neg h2] at hj
        rw [if_neg (by omega)]
        exact (hold i e he).2 j c hj
  · rw [List.getElem?_set_ne (Ne.symm e1)] at hi
    obtain ⟨h1, h2⟩ := hold i x hi
    refine ⟨h1, fun j c hj => ?_⟩
    have hjl : j < sz := by have := (List.getElem?_eq_some_iff.1 hj).1; omega
    rw [hcur]
    obtain ⟨v, hv, hcr⟩ := h2 j c hj
    refine ⟨v, ?_, hcr⟩
    rcases Nat.lt_or_gt_of_ne e1 with h3 | h3
    · rw [if_pos (mul_lt_row h3 hjl)]; exact hv
    · have h4 : (el + 1) * sz ≤ i * sz := Nat.mul_le_mul_right _ h3
      rw [Nat.add_mul] at h4
      rw [if_neg (by omega), if_neg (by omega)]; exact hv

theorem setRow_get (w : World) (g k : Nat) (cs : Array Value) (hk : k ≠ g) : (w.setRow g cs).heap[k]? = w.heap[k]? := setRow_other w g k cs hk

theorem store_sound {n id gen el off : Nat} {o : Obj} {e cs : List C} (hr : HeapRel w.heap S μ K h) (t : TypeId) (hn : sizeP P t = some n) {p x : Value} {u : V}
    (hp : VR w.heap S μ K h (.one (.ptr id gen el off)) p) (hx : VR w.heap S μ K h u x) (hu : u.cells = some cs) (ha : h.at id gen = some o) (he : o.els[el]? = some e)
    (hl : cs.length = n) (hfit : off + n ≤ e.length) {s : Sem Next} (hs : s = (do Instr.storeAt t p x; pure .skip)) :
    Sound P w S μ K h s .undef (h.set id { o with els := o.els.set el (writeAt e off cs) }) := by
  obtain ⟨hlook, hg⟩ := Heap.at_look ha
  rw [ptr_inv hp ha] at hs
  obtain ⟨cur, hb, hcs, hk, hk2, hold⟩ := hr.obj id o hlook
  obtain ⟨hrel, h1⟩ := hx.cells hu
  have hel : e.length = o.sz := (hold el e he).1
  have hlt : el < o.els.length := (List.getElem?_eq_some_iff.1 he).1
  have hvl : x.cells.toList.length = n := by rw [← hl]; exact hrel.1.symm
  have hrow : (el + 1) * o.sz ≤ K id * o.sz := Nat.mul_le_mul_right _ (by omega)
  rw [Nat.add_mul] at hrow
  have hfit2 : el * o.sz + off + x.cells.toList.length ≤ cur.size := by omega
  have hst := run_storeCells_at P (μ id) (el * o.sz + off) o.ty x.cells.toList 0 cur w hb (by simpa using hfit2) h1
  simp only [Nat.add_zero] at hst
  have hw := Holds.write hold he hrel (by omega) hfit2
  obtain ⟨ex, hr'⟩ := modify hr (hp' := (w.setRow (μ id) (cur.toList.take (el * o.sz + off) ++ x.cells.toList ++ cur.toList.drop (el * o.sz + off + x.cells.toList.length)).toArray).heap) id o.gen o
    (o.els.set el (writeAt e off cs)) _ hlook (Nat.le_refl _) (setRow_heap w (μ id) cur _ o.ty (0, 0) hb) (fun b hb' => setRow_get w (μ id) b _ hb') (by simp)
    (by simp only [List.size_toArray, List.length_append, List.length_take, List.length_drop, Array.length_toList] at *; omega) (by simpa using hk) hw
  have hsz : ∃ i, P.info? t = some i ∧ i.size = n := by
    unfold sizeP at hn
    cases hi : P.info? t with
    | none => simp [hi] at hn
    | some i => simp [hi] at hn; exact ⟨i, rfl, hn⟩
  obtain ⟨i, hi, hin⟩ := hsz
  have hxs : x.cells.size = n := by simpa using hvl
  refine ⟨undef, _, S, μ, K, .inr ⟨?_, rfl, rfl⟩, .undef _, ex, hr', ⟨rfl, rfl, rfl⟩⟩
  subst hs
  simp [Instr.storeAt, Instr.sureAddr, storeVar, sizeOf, typeInfo, hi, hin, hxs, hst]

/-! ### reckonings -/
theorem CR.int_inv {hp : Array Go.Obj} {k : IntKind} {n : Int} {v : Value} (hc : CR hp S μ K h (.int k n) v) : v = .int k n := by
  cases hc with | deep hd => cases hd; rfl
theorem CR.bool_inv {hp : Array Go.Obj} {b : Bool} {v : Value} (hc : CR hp S μ K h (.bool b) v) : v = .bool b := by
  cases hc with | deep hd => cases hd; rfl
theorem CR.str_inv {hp : Array Go.Obj} {s : List UInt8} {v : Value} (hc : CR hp S μ K h (.str s) v) : v = .string ⟨s.toArray⟩ := by
  cases hc with | deep hd => cases hd; rfl
theorem CR.nilp_inv {hp : Array Go.Obj} {v : Value} (hc : CR hp S μ K h .nilp v) : v = .pointer none := by
  cases hc with
  | deep hd => cases hd
  | nilp => rfl
theorem CR.ptr_inv {hp : Array Go.Obj} {id gen el off : Nat} {v : Value} (hc : CR hp S μ K h (.ptr id gen el off) v) : ∃ a, v = .pointer (some a) := by
  cases hc with
  | deep hd => cases hd
  | ptr => exact ⟨_, rfl⟩

theorem int_beq (a b : Int) : (a == b) = decide (a = b) := by
  by_cases hh : a = b <;> simp [hh]
theorem list_beq (a b : List UInt8) : (a == b) = decide (a = b) := by
  by_cases hh : a = b <;> simp [hh]

theorem eqTy_bool {t : TypeId} (he : eqTy P t = .bool) : P.underlying t = some .bool := by
  unfold eqTy at he
  split at he <;> first | assumption | cases he
theorem eqTy_ptr {t : TypeId} (he : eqTy P t = .ptr) : ∃ e, P.underlying t = some (.pointer e) := by
  unfold eqTy at he
  split at he <;> first | exact ⟨_, by assumption⟩ | cases he

theorem run_equal_bool {t : TypeId} (hu : P.underlying t = some .bool) (a b : Bool) (w : World) : (Op.equal t (.bool a) (.bool b)).run P w = .ok (a == b) w := by
  unfold Op.equal Op.maxDepth
  rw [show (10000 : Nat) = 9999 + 1 from rfl]
  unfold Op.equalIn
  simp only [Sem.run_bind, run_underlying hu, Result.andThen_ok, Sem.run_pure]
theorem run_equal_nn {t e : TypeId} (hu : P.underlying t = some (.pointer e)) (w : World) : (Op.equal t (.pointer none) (.pointer none)).run P w = .ok true w := by
  unfold Op.equal Op.maxDepth
  rw [show (10000 : Nat) = 9999 + 1 from rfl]
  unfold Op.equalIn
  simp only [Sem.run_bind, run_underlying hu, Result.andThen_ok, Sem.run_pure, Option.isNone_none]
theorem run_equal_np {t e : TypeId} (hu : P.underlying t = some (.pointer e)) (a : Addr) (w : World) : (Op.equal t (.pointer none) (.pointer (some a))).run P w = .ok false w := by
  unfold Op.equal Op.maxDepth
  rw [show (10000 : Nat) = 9999 + 1 from rfl]
  unfold Op.equalIn
  simp only [Sem.run_bind, run_underlying hu, Result.andThen_ok, Sem.run_pure, Option.isNone_some]
theorem run_equal_pn {t e : TypeId} (hu : P.underlying t = some (.pointer e)) (a : Addr) (w : World) : (Op.equal t (.pointer (some a)) (.pointer none)).run P w = .ok false w := by
  unfold Op.equal Op.maxDepth
  rw [show (10000 : Nat) = 9999 + 1 from rfl]
  unfold Op.equalIn
  simp only [Sem.run_bind, run_underlying hu, Result.andThen_ok, Sem.run_pure]

theorem bin_run (op : BinOp) (t : TypeId) (x y : Operand) {a b c : C} {va vb : Value} (ha : CR w.heap S μ K h a va) (hb : CR w.heap S μ K h b vb) (hc : binC op (eqTy P t) a b = some c) :
    ∃ val, (do eqGuard op t x y va vb; binOp op t va vb : Sem Value).run P w = .ok val w ∧ CR w.heap S μ K h c val := by
  cases a <;> cases b <;> try (exfalso; simp only [binC, reduceCtorEq] at hc; done)
  case int.int k a k' b =>
    obtain rfl := ha.int_inv
    obtain rfl := hb.int_inv
    have hg : (eqGuard op t x y (.int k a) (.int k' b)).run P w = .ok () w := by simp [eqGuard]
    simp only [Sem.run_bind, hg, Result.andThen_ok]
    simp only [binC] at hc
    by_cases hs : op = .shl ∨ op = .shr
    · rcases hs with rfl | rfl
      · simp only at hc
        split at hc
        · cases hc
        · cases hc
          rename_i hlt
          exact ⟨_, by simp [binOp, Op.shift, hlt], .deep (.int _ _)⟩
      · simp only at hc
        split at hc
        · cases hc
        · cases hc
          rename_i hlt
          exact ⟨_, by simp [binOp, Op.shift, hlt], .deep (.int _ _)⟩
    · have hk : k = k' := by
        by_cases hk : k = k'
        · exact hk
        · exfalso
          cases op <;> simp [hk] at hc <;> simp at hs
      subst hk
      cases op <;> simp at hs <;> simp at hc
      all_goals first
        | (subst hc; exact ⟨_, by simp [binOp, Op.intArith, Op.intBits]; done, .deep (.int _ _)⟩)
        | (subst hc; exact ⟨_, by simp [binOp, Op.intCmp, int_beq, bne]; done, .deep (.bool _)⟩)
        | (obtain ⟨h0, hc⟩ := hc; subst hc; exact ⟨_, by simp [binOp, Op.intDiv, h0], .deep (.int _ _)⟩)
  case str.str a b =>
    obtain rfl := ha.str_inv
    obtain rfl := hb.str_inv
    have hg : (eqGuard op t x y (.string ⟨a.toArray⟩) (.string ⟨b.toArray⟩)).run P w = .ok () w := by simp [eqGuard]
    simp only [Sem.run_bind, hg, Result.andThen_ok]
    cases op <;> simp [binC] at hc
    case add =>
      obtain ⟨hle, hc⟩ := hc
      subst hc
      refine ⟨.string ⟨(a ++ b).toArray⟩, ?_, .deep (.str _)⟩
      have e : (⟨a.toArray⟩ ++ ⟨b.toArray⟩ : ByteArray) = ⟨(a ++ b).toArray⟩ := by
        apply ByteArray.ext; simp
      have hsz : (⟨a.toArray⟩ : ByteArray).size = a.length := by simp [ByteArray.size]
      have hsz2 : (⟨b.toArray⟩ : ByteArray).size = b.length := by simp [ByteArray.size]
      have hmax : IntKind.i64.max = 9223372036854775807 := by decide
      have : ¬ ((a.length + b.length : Nat) : Int) > 9223372036854775807 := by omega
      simp only [binOp, Op.stringOp, hsz, hsz2, hmax, this, if_false, e, Sem.run_pure]
    all_goals (subst hc; exact ⟨_, by simp [binOp, Op.stringOp, list_beq]; done, .deep (.bool _)⟩)
  case bool.bool a b =>
    obtain rfl := ha.bool_inv
    obtain rfl := hb.bool_inv
    have hg : (eqGuard op t x y (.bool a) (.bool b)).run P w = .ok () w := by simp [eqGuard]
    simp only [Sem.run_bind, hg, Result.andThen_ok]
    cases op <;> cases he : eqTy P t <;> simp [binC, he] at hc
    all_goals
      have hu := eqTy_bool he
      subst hc
      refine ⟨_, by simp [binOp, run_equal_bool hu]; done, .deep (.bool _)⟩
  case nilp.nilp =>
    obtain rfl := ha.nilp_inv
    obtain rfl := hb.nilp_inv
    have hg : (eqGuard op t x y (.pointer none) (.pointer none)).run P w = .ok () w := by simp [eqGuard]
    simp only [Sem.run_bind, hg, Result.andThen_ok]
    cases op <;> cases he : eqTy P t <;> simp [binC, he] at hc
    all_goals
      obtain ⟨el, hu⟩ := eqTy_ptr he
      subst hc
      refine ⟨_, by simp [binOp, run_equal_nn hu]; done, .deep (.bool _)⟩
  case nilp.ptr =>
    obtain rfl := ha.nilp_inv
    obtain ⟨ad, rfl⟩ := hb.ptr_inv
    have hg : (eqGuard op t x y (.pointer none) (.pointer (some ad))).run P w = .ok () w := by simp [eqGuard]
    simp only [Sem.run_bind, hg, Result.andThen_ok]
    cases op <;> cases he : eqTy P t <;> simp [binC, he] at hc
    all_goals
      obtain ⟨el, hu⟩ := eqTy_ptr he
      subst hc
      refine ⟨_, by simp [binOp, run_equal_np hu]; done, .deep (.bool _)⟩
  case ptr.nilp =>
    obtain rfl := hb.nilp_inv
    obtain ⟨ad, rfl⟩ := ha.ptr_inv
    have hg : (eqGuard op t x y (.pointer (some ad)) (.pointer none)).run P w = .ok () w := by simp [eqGuard]
    simp only [Sem.run_bind, hg, Result.andThen_ok]
    cases op <;> cases he : eqTy P t <;> simp [binC, he] at hc
    all_goals
      obtain ⟨el, hu⟩ := eqTy_ptr he
      subst hc
      refine ⟨_, by simp [binOp, run_equal_pn hu]; done, .deep (.bool _)⟩

end Go.AI

/- One operation of the model does what the interpreter says of it: places, parts, slices. -/
namespace Go.AI
open Go

variable {P : Program} {w : World} {S : Nat → Prop} {μ K : Nat → Nat} {h : Heap}

theorem sizeP_some {t : TypeId} {n : Nat} (hn : sizeP P t = some n) : ∃ i, P.info? t = some i ∧ i.size = n := by
  unfold sizeP at hn
  cases hi : P.info? t with
  | none => simp [hi] at hn
  | some i => simp [hi] at hn; exact ⟨i, rfl, hn⟩

theorem fieldsOf_some {t : TypeId} {fs : Array Field} (hf : fieldsOf P t = some fs) : P.underlying t = some (.struct fs) := by
  unfold fieldsOf at hf
  split at hf
  · cases hf; assumption
  · cases hf

theorem elemOf_some {t e : TypeId} (hf : elemOf? P t = some e) : P.underlying t = some (.slice e) := by
  unfold elemOf? at hf
  split at hf
  · cases hf; assumption
  · cases hf

theorem run_sizeOf {t : TypeId} {i : TypeInfo} (hi : P.info? t = some i) (w : World) : (sizeOf t).run P w = .ok i.size w := by simp [sizeOf, typeInfo, hi]

/-! ### places -/
theorem fieldAddr_run {s : TypeId} {fs : Array Field} {fd : Field} {n f : Nat} (hf : fieldsOf P s = some fs) (hfd : fs[f]? = some fd) (hn : sizeP P fd.type = some n) (h0 : n ≠ 0)
    {c c' : C} (hc : addC fd.offset c = some c') {v : Value} (hv : CR w.heap S μ K h c v) : ∃ val, (Instr.fieldAt s v f).run P w = .ok val w ∧ CR w.heap S μ K h c' val := by
  have hu := fieldsOf_some hf
  obtain ⟨i, hi, hin⟩ := sizeP_some hn
  have hfp : ∀ a : Addr, (fieldPlace a fd).run P w = .ok (a.add fd.offset) w := fun a => by
    simp [fieldPlace, run_sizeOf hi, hin, h0]
  cases c <;> simp only [addC, reduceCtorEq, Option.some.injEq] at hc
  case ptr id gen el off =>
    subst hc
    cases hv with
    | deep hd => cases hd
    | ptr id gen el off a o hm hg ho =>
      refine ⟨.pointer (some (a.add fd.offset)), by simp [Instr.fieldAt, run_underlying hu, hfd, Instr.sureAddr, hfp], .ptr _ _ _ _ _ o hm hg fun h1 h2 => ?_⟩
      rw [ho h1 h2, addr_add]; simp [Nat.add_assoc]
  case dp el off =>
    subst hc
    cases hv with
    | deep hd => cases hd
    | dp el off b o vals hS hvv hd =>
      refine ⟨.pointer (some ⟨b, o + (off + fd.offset), none⟩), ?_, .dp el _ b o vals hS hvv hd⟩
      simp [Instr.fieldAt, run_underlying hu, hfd, Instr.sureAddr, hfp, addr_add, Nat.add_assoc]

theorem part_run {t : TypeId} {n : Option Nat} (hn : loadN P t = some n) {cs : List C} {vs : Array Value} {off : Nat} {v : V} (hc : CRs w.heap S μ K h cs vs.toList) (hv : cellsAt cs off n = some v) :
    ∃ val, (part t vs off).run P w = .ok val w ∧ VR w.heap S μ K h v val := by
  cases n with
  | none =>
    obtain ⟨d, hu, hd⟩ := loadN_none hn
    simp only [cellsAt, Option.map_eq_some_iff] at hv
    obtain ⟨c, hc1, rfl⟩ := hv
    obtain ⟨u, hu1, hcr⟩ := hc.get hc1
    have hu2 : vs[off]? = some u := by simpa using hu1
    exact ⟨u, by simp [part, run_isAgg hu, hd, hu2], .one hcr⟩
  | some n =>
    obtain ⟨d, i, hu, hd, hi, hin⟩ := loadN_some hn
    simp only [cellsAt] at hv
    split at hv
    · cases hv
      have hl := hc.1
      refine ⟨.agg (vs.extract off (off + n)), by simp [part, run_isAgg hu, hd, run_sizeOf hi, hin], .agg ⟨?_, fun j c u h1 h2 => ?_⟩⟩
      · simp at hl ⊢; omega
      · have hj : j < n := by
          rcases Nat.lt_or_ge j n with h3 | h3
          · exact h3
          · simp [List.getElem?_take, Nat.not_lt.2 h3] at h1
        have h1' : cs[off + j]? = some c := by simpa [List.getElem?_take, hj, List.getElem?_drop] using h1
        obtain ⟨u', hu1, hcr⟩ := hc.get h1'
        have : (vs.extract off (off + n)).toList[j]? = vs[off + j]? := by
          rw [Array.getElem?_toList, Array.getElem?_extract]
          rw [if_pos]
          have := (List.getElem?_eq_some_iff.1 h1').1
          simp at hl; omega
        rw [this] at h2
        have hu2 : vs[off + j]? = some u' := by simpa using hu1
        rw [hu2] at h2; cases h2
        exact hcr
    · cases hv

theorem field_run {s : TypeId} {fs : Array Field} {fd : Field} {n : Option Nat} {f : Nat} (hf : fieldsOf P s = some fs) (hfd : fs[f]? = some fd) (hn : loadN P fd.type = some n)
    {cs : List C} {v : V} (hv : cellsAt cs fd.offset n = some v) {x : Value} (hx : VR w.heap S μ K h (.agg cs) x) : ∃ val, (Instr.field s x f).run P w = .ok val w ∧ VR w.heap S μ K h v val := by
  have hu := fieldsOf_some hf
  cases hx with
  | agg hc =>
    obtain ⟨val, hr, hvr⟩ := part_run hn hc hv
    exact ⟨val, by simp [Instr.field, run_underlying hu, hfd, asAgg, hr], hvr⟩

theorem run_indexAt {t e : TypeId} (hu : P.underlying t = some (.slice e)) {i : TypeInfo} (hi : P.info? e = some i) (a : Addr) (len cap : Nat) (k : IntKind) (n : Int) (h0 : 0 ≤ n) (h1 : n < len) (w : World) :
    (Instr.indexAt t (.slice (some a) len cap) (.int k n)).run P w = .ok (.pointer (some (a.add (n.toNat * i.size)))) w := by
  have he : P.elem t = e := by simp [Program.elem, hu]
  rw [run_indexAt_slice w t a len cap k n (by rw [he]; exact hu), he, if_pos ⟨h0, h1⟩, run_sizeOf hi]
  rfl

theorem dv_inv {hp : Array Go.Obj} {xs : List (List C)} {v : Value} (hc : CR hp S μ K h (.dv xs) v) : ∃ A cap, v = .slice A xs.length cap ∧ xs.length ≤ cap ∧
    (xs ≠ [] → ∃ b off s, ∃ vals : Nat → Nat → Value, A = some ⟨b, off, none⟩ ∧ S b ∧ (∀ (i : Nat) (el : List C), xs[i]? = some el → el.length = s) ∧
      (∀ (i : Nat) (el : List C) (j : Nat) (c : C), xs[i]? = some el → el[j]? = some c → rd hp b (off + i * s + j) = some (vals i j) ∧ CR hp S μ K h c (vals i j))) := by
  cases hc with
  | deep hd =>
    cases hd with
    | dv0 A cap => exact ⟨A, cap, rfl, Nat.zero_le _, fun hne => absurd rfl hne⟩
    | dv xs b off cap s vals hS hcap hs hv hd =>
      exact ⟨_, cap, rfl, hcap, fun _ => ⟨b, off, s, vals, rfl, hS, hs, fun i el j c h1 h2 => ⟨hv i el j c h1 h2, .deep (hd i el j c h1 h2)⟩⟩⟩

/-- an element of an immutable slice -/
theorem index_imm {t e : TypeId} (hu : P.underlying t = some (.slice e)) {i : TypeInfo} (hi : P.info? e = some i) {xs : List (List C)} {len cap b off s : Nat} {vals : Nat → Nat → Value}
    (hS : S b) (hlen : xs.length = len) (hsz : s = i.size)
    (hv : ∀ (i : Nat) (el : List C) (j : Nat) (c : C), xs[i]? = some el → el[j]? = some c → rd w.heap b (off + i * s + j) = some (vals i j) ∧ CR w.heap S μ K h c (vals i j))
    {n : Int} (h0 : 0 ≤ n) {el : List C} (hel : xs[n.toNat]? = some el) (k : IntKind) :
    ∃ val, (Instr.indexAt t (.slice (some ⟨b, off, none⟩) len cap) (.int k n)).run P w = .ok val w ∧ CR w.heap S μ K h (.dp el 0) val := by
  have hlt : n.toNat < xs.length := (List.getElem?_eq_some_iff.1 hel).1
  refine ⟨_, run_indexAt hu hi _ _ _ _ _ h0 (by omega) w, ?_⟩
  rw [addr_add, ← hsz]
  exact .dp el 0 b (off + n.toNat * s) (vals n.toNat) hS (fun j c hj => (hv n.toNat el j c hel hj).1) (fun j c hj => (hv n.toNat el j c hel hj).2)

theorem indexAddr_dv {t e : TypeId} (hu : P.underlying t = some (.slice e)) {i : TypeInfo} (hi : P.info? e = some i) {xs : List (List C)} {x : Value} {n : Int} {k : IntKind} {el : List C}
    (hx : VR w.heap S μ K h (.one (.dv xs)) x) (h0 : 0 ≤ n) (hel : xs[n.toNat]? = some el) (hsz : el.length = i.size) :
    ∃ val, (Instr.indexAt t x (.int k n)).run P w = .ok val w ∧ VR w.heap S μ K h (.one (.dp el 0)) val := by
  cases hx with
  | one hc =>
    obtain ⟨A, cap, rfl, hcap, hne⟩ := dv_inv hc
    obtain ⟨b, off, s, vals, rfl, hS, hss, hv⟩ := hne (by intro e; rw [e] at hel; simp at hel)
    obtain ⟨val, h1, h2⟩ := index_imm hu hi hS rfl (by rw [← hsz]; exact (hss _ _ hel).symm) hv h0 hel k (cap := cap)
    exact ⟨val, h1, .one h2⟩

theorem indexAddr_lit {t e : TypeId} (hu : P.underlying t = some (.slice e)) {i : TypeInfo} (hi : P.info? e = some i) {xs : List (List C)} {x : Value} {n : Int} {k : IntKind} {el : List C}
    (hx : VR w.heap S μ K h (.lit xs) x) (h0 : 0 ≤ n) (hel : xs[n.toNat]? = some el) (hsz : el.length = i.size) :
    ∃ val, (Instr.indexAt t x (.int k n)).run P w = .ok val w ∧ VR w.heap S μ K h (.one (.dp el 0)) val := by
  cases hx with
  | lit els b s vals hS hss hv hd =>
    obtain ⟨val, h1, h2⟩ := index_imm hu hi (off := 0) (s := s) hS rfl (by rw [← hsz]; exact (hss _ _ hel).symm) (fun i el j c h1 h2 => ⟨by rw [Nat.zero_add]; exact hv i el j c h1 h2, hd i el j c h1 h2⟩) h0 hel k (cap := xs.length)
    exact ⟨val, h1, .one h2⟩

theorem indexAddr_sl {t e : TypeId} (hu : P.underlying t = some (.slice e)) {i : TypeInfo} (hi : P.info? e = some i) {id gen off len : Nat} {x : Value} {n : Int} {k : IntKind} {o : Obj}
    (hx : VR w.heap S μ K h (.one (.sl id gen off len)) x) (ha : h.at id gen = some o) (h0 : 0 ≤ n) (h1 : n < len) (h2 : o.sz = i.size) :
    ∃ val, (Instr.indexAt t x (.int k n)).run P w = .ok val w ∧ VR w.heap S μ K h (.one (.ptr id gen (off + n.toNat) 0)) val := by
  obtain ⟨A, cap, rfl, hA⟩ := sl_inv hx
  obtain ⟨hA1, _, hlc⟩ := hA o ha
  obtain rfl : A = some ⟨μ id, off * o.sz, none⟩ := hA1.resolve_right (fun hc => by omega)
  obtain ⟨hl, hg⟩ := Heap.at_look ha
  obtain ⟨hm, hlive⟩ := Heap.look_mem hl
  refine ⟨_, run_indexAt hu hi _ _ _ _ _ h0 h1 w, .one (.ptr _ _ _ _ _ o hm (by omega) fun _ _ => ?_)⟩
  rw [addr_add, ← h2, Nat.add_mul]; simp

/-! ### lengths -/
theorem len_slice {hp : Array Go.Obj} {v : V} {x : Value} {n : Nat} (hv : VR hp S μ K h v x) (hn : lenOf false v = some n) : ∃ A cap, x = .slice A n cap := by
  unfold lenOf at hn
  split at hn <;> first | (exfalso; rename_i hh; cases hh; done) | skip
  all_goals try cases hn
  · cases hv; exact ⟨_, _, rfl⟩
  · cases hv with | one hc => obtain ⟨A, cap, rfl, _⟩ := dv_inv hc; exact ⟨_, _, rfl⟩
  · cases hv with | one hc => cases hc with
      | deep hd => cases hd
      | nils A => exact ⟨_, _, rfl⟩
  · obtain ⟨A, cap, rfl, _⟩ := sl_inv hv; exact ⟨_, _, rfl⟩

theorem len_str {hp : Array Go.Obj} {v : V} {x : Value} {n : Nat} (hv : VR hp S μ K h v x) (hn : lenOf true v = some n) : ∃ s : List UInt8, x = .string ⟨s.toArray⟩ ∧ n = s.length := by
  unfold lenOf at hn
  split at hn <;> first | (exfalso; rename_i hh; cases hh; done) | skip
  all_goals try cases hn
  · cases hv with | one hc => exact ⟨_, hc.str_inv, rfl⟩

theorem len_run {t ty : TypeId} {str : Bool} (hu : if str then P.underlying t = some .string else ∃ e, P.underlying t = some (.slice e)) {v : V} {x : Value} {n : Nat} (hv : VR w.heap S μ K h v x) (hn : lenOf str v = some n) :
    (Builtin.len_ #[t] ty #[x]).run P w = .ok (.int .i64 n) w := by
  cases str with
  | false =>
    obtain ⟨e, hu⟩ := hu
    obtain ⟨A, cap, rfl⟩ := len_slice hv hn
    simp [Builtin.len_, run_underlying hu, goInt]
  | true =>
    have hu : P.underlying t = some .string := hu
    obtain ⟨s, rfl, rfl⟩ := len_str hv hn
    have e : (⟨s.toArray⟩ : ByteArray).size = s.length := by simp [ByteArray.size]
    simp only [Builtin.len_, List.getElem?_toArray, List.getElem?_cons_zero, Sem.run_bind, run_underlying hu, Result.andThen_ok, Sem.run_pure, goInt, e]

end Go.AI

/- One operation of the model does what the interpreter says of it: slicing and appending. -/
namespace Go.AI
open Go

variable {P : Program} {w : World} {S : Nat → Prop} {μ K : Nat → Nat} {h : Heap}

def BoundV (x : Option Value) (d n : Nat) : Prop := (x = none ∧ n = d) ∨ ∃ k, x = some (.int k (n : Int))

theorem run_bounds (isSlice : Bool) {len cap l u : Nat} {lo hi : Option Value} (hl : BoundV lo 0 l) (hh : BoundV hi len u) (h1 : l ≤ u) (h2 : u ≤ cap) (w : World) :
    (Instr.sliceBounds isSlice len cap lo hi none).run P w = .ok (l, u, cap) w := by
  have b1 : ∀ k c, (Instr.sliceBound (.int k (l : Int)) u c).run P w = .ok l w := fun k c => by
    rw [run_sliceBound w k l u c (by omega) (by omega)]; simp
  have b2 : ∀ k c, (Instr.sliceBound (.int k (u : Int)) cap c).run P w = .ok u w := fun k c => by
    rw [run_sliceBound w k u cap c (by omega) (by omega)]; simp
  rcases hl with ⟨rfl, rfl⟩ | ⟨k, rfl⟩ <;> rcases hh with ⟨rfl, rfl⟩ | ⟨k', rfl⟩ <;> simp [Instr.sliceBounds, b1, b2]

theorem run_slice_slice {t e : TypeId} (hu : P.underlying t = some (.slice e)) {i : TypeInfo} (hi : P.info? e = some i) {A : Option Addr} {len cap l u : Nat} {lo hi' : Option Value}
    (hl : BoundV lo 0 l) (hh : BoundV hi' len u) (h1 : l ≤ u) (h2 : u ≤ cap) (w : World) :
    (Instr.sliceAt t (.slice A len cap) lo hi' none).run P w = .ok (.slice (if cap = l then A else A.map (·.add (l * i.size))) (u - l) (cap - l)) w := by
  simp [Instr.sliceAt, Instr.slice, run_underlying hu, run_bounds true hl hh h1 h2, run_sizeOf hi]

theorem sl_slice {t e : TypeId} (hu : P.underlying t = some (.slice e)) {i : TypeInfo} (hi : P.info? e = some i) {id gen off len l u : Nat} {lo hi' : Option Value} {o : Obj} {x : Value}
    (hr : HeapRel w.heap S μ K h) (hx : VR w.heap S μ K h (.one (.sl id gen off len)) x) (ha : h.at id gen = some o) (hsz : o.sz = i.size)
    (hl : BoundV lo 0 l) (hh : BoundV hi' len u) (h1 : l ≤ u) (h2 : off + u ≤ o.els.length) :
    ∃ val, (Instr.sliceAt t x lo hi' none).run P w = .ok val w ∧ VR w.heap S μ K h (.one (.sl id gen (off + l) (u - l))) val := by
  obtain ⟨A, cap, rfl, hA⟩ := sl_inv hx
  obtain ⟨hA1, hK, hlc⟩ := hA o ha
  obtain ⟨hlk, hg⟩ := Heap.at_look ha
  obtain ⟨hm, hlive⟩ := Heap.look_mem hlk
  obtain ⟨cs, _, _, hk, _⟩ := hr.obj id o hlk
  refine ⟨_, run_slice_slice hu hi hl hh h1 (by omega) w, .one (.sl _ _ _ _ _ _ o hm (by omega) fun _ _ => ⟨?_, by omega, by omega⟩)⟩
  by_cases e1 : cap = l
  · refine .inr ⟨by omega, ?_⟩
    simp only [e1, if_true]
    rcases hA1 with rfl | ⟨_, a, rfl⟩
    · exact ⟨_, rfl⟩
    · exact ⟨_, rfl⟩
  · rcases hA1 with rfl | ⟨h0, a, rfl⟩
    · refine .inl ?_
      simp [e1, addr_add, ← hsz, Nat.add_mul]
    · exfalso; omega

theorem dv_slice {t e : TypeId} (hu : P.underlying t = some (.slice e)) {i : TypeInfo} (hi : P.info? e = some i) {xs : List (List C)} {l u : Nat} {lo hi' : Option Value} {x : Value}
    (hx : VR w.heap S μ K h (.one (.dv xs)) x) (hsz : ∀ el : List C, xs[0]? = some el → el.length = i.size)
    (hl : BoundV lo 0 l) (hh : BoundV hi' xs.length u) (h1 : l ≤ u) (h2 : u ≤ xs.length) :
    ∃ val, (Instr.sliceAt t x lo hi' none).run P w = .ok val w ∧ VR w.heap S μ K h (.one (.dv ((xs.drop l).take (u - l)))) val := by
  cases hx with
  | one hc =>
    cases hc with
    | deep hd =>
      have key : ∃ A cap, x = .slice A xs.length cap ∧ xs.length ≤ cap := by
        cases hd with
        | dv0 A cap => exact ⟨A, cap, rfl, Nat.zero_le _⟩
        | dv _ b off cap s vals hS hcap hs hv hd => exact ⟨_, cap, rfl, hcap⟩
      obtain ⟨A, cap, rfl, hcap⟩ := key
      refine ⟨_, run_slice_slice hu hi hl hh h1 (by omega) w, .one (.deep ?_)⟩
      have hlen : ((xs.drop l).take (u - l)).length = u - l := by simp; omega
      by_cases e0 : u - l = 0
      · have e1 : (xs.drop l).take (u - l) = [] := by rw [e0]; simp
        rw [e1, e0]
        exact .dv0 _ _
      · have e1 : ¬ cap = l := by omega
        simp only [e1, if_false]
        cases hd with
        | dv0 A cap => simp at h2; omega
        | dv _ b off cap s vals hS hcap hs hv hd =>
          have hs0 : s = i.size := by
            have hlt : 0 < xs.length := by omega
            rw [← hs 0 xs[0] (List.getElem?_eq_getElem hlt)]
            exact hsz xs[0] (List.getElem?_eq_getElem hlt)
          have hget : ∀ (i' : Nat) (el : List C), ((xs.drop l).take (u - l))[i']? = some el → xs[l + i']? = some el := fun i' el hi' => by
            rw [List.getElem?_take] at hi'
            split at hi'
            · simpa [List.getElem?_drop] using hi'
            · cases hi'
          have := DR.dv (hp := w.heap) (S := S) ((xs.drop l).take (u - l)) b (off + l * s) (cap - l) s (fun i' j => vals (l + i') j) hS (by omega)
            (fun i' el h3 => hs _ _ (hget i' el h3))
            (fun i' el j c h3 h4 => by
              have := hv _ _ j c (hget i' el h3) h4
              rw [Nat.add_mul] at this
              rw [← this]; congr 1; omega)
            (fun i' el j c h3 h4 => hd _ _ j c (hget i' el h3) h4)
          rw [hlen] at this
          simpa [addr_add, hs0] using this

theorem nils_slice {t e : TypeId} (hu : P.underlying t = some (.slice e)) {i : TypeInfo} (hi : P.info? e = some i) {lo hi' : Option Value} {x : Value}
    (hx : VR w.heap S μ K h (.one .nils) x) (hl : BoundV lo 0 0) (hh : BoundV hi' 0 0) :
    ∃ val, (Instr.sliceAt t x lo hi' none).run P w = .ok val w ∧ VR w.heap S μ K h (.one .nils) val := by
  cases hx with
  | one hc =>
    cases hc with
    | deep hd => cases hd
    | nils A => exact ⟨_, run_slice_slice hu hi hl hh (Nat.le_refl _) (Nat.le_refl _) w, by simpa using VR.one (.nils A)⟩

theorem extract_mk (s : List UInt8) (l u : Nat) : (⟨s.toArray⟩ : ByteArray).extract l u = ⟨((s.drop l).take (u - l)).toArray⟩ := by
  apply ByteArray.ext
  simp [ByteArray.data_extract]

theorem str_slice {t : TypeId} (hu : P.underlying t = some .string) {s : List UInt8} {l u : Nat} {lo hi' : Option Value} {x : Value}
    (hx : VR w.heap S μ K h (.one (.str s)) x) (hl : BoundV lo 0 l) (hh : BoundV hi' s.length u) (h1 : l ≤ u) (h2 : u ≤ s.length) :
    ∃ val, (Instr.sliceAt t x lo hi' none).run P w = .ok val w ∧ VR w.heap S μ K h (.one (.str ((s.drop l).take (u - l)))) val := by
  cases hx with
  | one hc =>
    obtain rfl := hc.str_inv
    refine ⟨_, ?_, .one (.deep (.str _))⟩
    have e : (⟨s.toArray⟩ : ByteArray).size = s.length := by simp [ByteArray.size]
    have hb := run_bounds (P := P) false (len := s.length) (cap := s.length) hl hh h1 h2 w
    simp only [Instr.sliceAt, Instr.slice, Sem.run_bind, run_underlying hu, Result.andThen_ok, e, hb, Option.isSome_none, Bool.false_eq_true, if_false, Sem.run_pure, extract_mk]

end Go.AI

/- One operation of the model does what the interpreter says of it: append. -/
namespace Go.AI
open Go

variable {P : Program} {w : World} {S : Nat → Prop} {μ K : Nat → Nat} {h : Heap}

theorem Holds.splice {hp : Array Go.Obj} {sz p : Nat} {els news : List (List C)} {cur : Array Value} {vals : List Value} (hold : Holds hp S μ K h sz els cur) (hn : Holds hp S μ K h sz news vals.toArray)
    (hv : vals.length = news.length * sz) (hpe : p ≤ els.length) (hfit : p * sz + vals.length ≤ cur.size) :
    Holds hp S μ K h sz (els.take p ++ news ++ els.drop (p + news.length)) (cur.toList.take (p * sz) ++ vals ++ cur.toList.drop (p * sz + vals.length)).toArray := by
  have hcur : ∀ k, (cur.toList.take (p * sz) ++ vals ++ cur.toList.drop (p * sz + vals.length)).toArray[k]? =
      if k < p * sz then cur[k]? else if k < p * sz + vals.length then vals[k - p * sz]? else cur[k]? := fun k => by
    have := splice_get cur.toList vals (p * sz) k (by simpa using hfit)
    simpa using this
  have hels : ∀ i, (els.take p ++ news ++ els.drop (p + news.length))[i]? = if i < p then els[i]? else if i < p + news.length then news[i - p]? else els[i]? := fun i => by
    rw [List.append_assoc, List.getElem?_append]
    simp only [List.length_take, Nat.min_eq_left hpe]
    by_cases h1 : i < p
    · simp [h1]
    · simp only [h1, if_false]
      rw [List.getElem?_append]
      by_cases h2 : i < p + news.length
      · rw [if_pos (by omega), if_pos h2]
      · rw [if_neg (by omega), if_neg h2, List.getElem?_drop]
        congr 1; omega
  intro i x hi
  rw [hels] at hi
  by_cases h1 : i < p
  · rw [if_pos h1] at hi
    obtain ⟨hl, hx⟩ := hold i x hi
    refine ⟨hl, fun j c hj => ?_⟩
    have hjl : j < sz := by have := (List.getElem?_eq_some_iff.1 hj).1; omega
    rw [hcur, if_pos (by have := mul_lt_row (off := 0) h1 hjl; omega)]
    exact hx j c hj
  · rw [if_neg h1] at hi
    by_cases h2 : i < p + news.length
    · rw [if_pos h2] at hi
      obtain ⟨hl, hx⟩ := hn _ x hi
      refine ⟨hl, fun j c hj => ?_⟩
      have hjl : j < sz := by have := (List.getElem?_eq_some_iff.1 hj).1; omega
      have e1 : p * sz ≤ i * sz := Nat.mul_le_mul_right _ (by omega)
      have e2 : i * sz + j - p * sz = (i - p) * sz + j := by rw [Nat.sub_mul]; omega
      have e3 : (i - p) * sz + j < news.length * sz := by
        have := mul_lt_row (off := 0) (show i - p < news.length by omega) hjl
        simpa using this
      rw [hcur, if_neg (by omega), if_pos (by rw [hv]; omega), e2]
      simpa using hx j c hj
    · rw [if_neg h2] at hi
      obtain ⟨hl, hx⟩ := hold i x hi
      refine ⟨hl, fun j c hj => ?_⟩
      have e1 : (p + news.length) * sz ≤ i * sz := Nat.mul_le_mul_right _ (by omega)
      rw [Nat.add_mul] at e1
      rw [hcur, if_neg (by omega), if_neg (by omega)]
      exact hx j c hj

/-- what is appended, as cells in memory -/
structure Src (w : World) (S : Nat → Prop) (μ K : Nat → Nat) (h : Heap) (sz : Nat) (news : List (List C)) (y : Value) : Prop where
  ex : ∃ (B : Option Addr) (c : Nat) (vals : List Value), y = .slice B news.length c ∧ vals.length = news.length * sz ∧ Holds w.heap S μ K h sz news vals.toArray ∧ (∀ v ∈ vals, v.oneCell' = true) ∧
    (news ≠ [] → ∃ b, B = some b ∧ ∀ j u, vals[j]? = some u → w.cell? (b.add j) = some u)

theorem src_of {sz m b off : Nat} {news : List (List C)} (hsz0 : 0 < sz) (hm : news.length = m) (hlen : ∀ (i : Nat) (el : List C), news[i]? = some el → el.length = sz)
    (hv : ∀ (i : Nat) (el : List C) (j : Nat) (c : C), news[i]? = some el → el[j]? = some c → ∃ v, rd w.heap b (off + i * sz + j) = some v ∧ CR w.heap S μ K h c v) (A : Option Addr) (hA : news ≠ [] → A = some ⟨b, off, none⟩) (c : Nat) :
    Src w S μ K h sz news (.slice A m c) := by
  subst hm
  let f : Nat → Value := fun k => (rd w.heap b (off + k)).getD undef
  have hget : ∀ k, k < news.length * sz → ∃ v cc, rd w.heap b (off + k) = some v ∧ CR w.heap S μ K h cc v ∧ f k = v := fun k hk => by
    have hi : k / sz < news.length := (Nat.div_lt_iff_lt_mul hsz0).2 hk
    have hj : k % sz < sz := Nat.mod_lt _ hsz0
    have hel := hlen _ _ (List.getElem?_eq_getElem hi)
    have hjl : k % sz < (news[k / sz]).length := by omega
    obtain ⟨v, h1, h2⟩ := hv (k / sz) news[k / sz] (k % sz) _ (List.getElem?_eq_getElem hi) (List.getElem?_eq_getElem hjl)
    have e : off + k / sz * sz + k % sz = off + k := by have := Nat.div_add_mod k sz; rw [Nat.mul_comm] at this; omega
    rw [e] at h1
    exact ⟨v, _, h1, h2, by simp [f, h1]⟩
  refine ⟨A, c, (List.range (news.length * sz)).map f, rfl, by simp, ?_, ?_, ?_⟩
  · intro i el hi
    refine ⟨hlen i el hi, fun j cc hj => ?_⟩
    have hil : i < news.length := (List.getElem?_eq_some_iff.1 hi).1
    have hjl : j < sz := by have := (List.getElem?_eq_some_iff.1 hj).1; have := hlen i el hi; omega
    obtain ⟨v, h1, h2⟩ := hv i el j cc hi hj
    have hk : i * sz + j < news.length * sz := by have := mul_lt_row (off := 0) hil hjl; simpa using this
    refine ⟨v, ?_, h2⟩
    simp [hk, f, ← Nat.add_assoc, h1]
  · intro v hv'
    simp only [List.mem_map, List.mem_range] at hv'
    obtain ⟨k, hk, rfl⟩ := hv'
    obtain ⟨v, cc, h1, h2, h3⟩ := hget k hk
    rw [h3]; exact h2.oneCell
  · intro hne
    refine ⟨_, hA hne, fun j u hj => ?_⟩
    simp only [List.getElem?_map, Option.map_eq_some_iff] at hj
    obtain ⟨k, hk, rfl⟩ := hj
    have hjl : j < news.length * sz := by
      rcases Nat.lt_or_ge j (news.length * sz) with h3 | h3
      · exact h3
      · rw [List.getElem?_eq_none (by simpa using h3)] at hk; cases hk
    rw [List.getElem?_range hjl] at hk; cases hk
    obtain ⟨v, cc, h1, h2, h3⟩ := hget j hjl
    rw [addr_add, cell_rd, h1, h3]

theorem src_rel {sz : Nat} (hsz0 : 0 < sz) (hr : HeapRel w.heap S μ K h) {v : V} {y : Value} (hv : VR w.heap S μ K h v y) {news : List (List C)} (hn : elsOf h v = some news)
    (hlen : ∀ (i : Nat) (el : List C), news[i]? = some el → el.length = sz) : Src w S μ K h sz news y := by
  unfold elsOf at hn
  split at hn
  · cases hn
    cases hv with
    | lit els b s vals hS hs hvv hd =>
      refine src_of hsz0 rfl hlen (b := b) (off := 0) (fun i el j c h1 h2 => ⟨vals i j, ?_, hd i el j c h1 h2⟩) _ (fun _ => rfl) _
      have e : s = sz := (hs i el h1).symm.trans (hlen i el h1)
      rw [Nat.zero_add, ← e]; exact hvv i el j c h1 h2
  · cases hn
    cases hv with
    | one hc =>
      obtain ⟨A, cap, rfl, hcap, hne⟩ := dv_inv hc
      by_cases e : news = []
      · subst e
        exact src_of hsz0 rfl hlen (b := 0) (off := 0) (fun i el j c h1 h2 => by simp at h1) _ (fun hne => absurd rfl hne) _
      · obtain ⟨b, off, s, vals, rfl, hS, hs, hvv⟩ := hne e
        refine src_of hsz0 rfl hlen (b := b) (off := off) (fun i el j c h1 h2 => ⟨vals i j, ?_, (hvv i el j c h1 h2).2⟩) _ (fun _ => rfl) _
        have e : s = sz := (hs i el h1).symm.trans (hlen i el h1)
        rw [← e]; exact (hvv i el j c h1 h2).1
  · cases hn
    cases hv with
    | one hc =>
      cases hc with
      | deep hd => cases hd
      | nils A => exact src_of hsz0 rfl hlen (b := 0) (off := 0) (fun i el j c h1 h2 => by simp at h1) _ (fun hne => absurd rfl hne) _
  · rename_i id gen off len
    cases ha : h.at id gen with
    | none => rw [ha] at hn; cases hn
    | some o =>
      rw [ha] at hn
      simp only [Option.bind_some] at hn
      split at hn
      · rename_i hfit
        cases hn
        obtain ⟨A, cap, rfl, hA⟩ := sl_inv hv
        obtain ⟨hA1, hK, hlc⟩ := hA o ha
        obtain ⟨hlk, hg⟩ := Heap.at_look ha
        obtain ⟨cs, hb, hcs, hk, hk2, hold⟩ := hr.obj id o hlk
        have hl2 : ((o.els.drop off).take len).length = len := by simp; omega
        refine src_of hsz0 hl2 hlen (b := μ id) (off := off * o.sz) (fun i el j c h1 h2 => ?_) _ (fun hne => ?_) _
        · have hi : i < len := by have := (List.getElem?_eq_some_iff.1 h1).1; omega
          have h1' : o.els[off + i]? = some el := by simpa [List.getElem?_take, hi, List.getElem?_drop] using h1
          obtain ⟨he, hx⟩ := hold _ el h1'
          obtain ⟨v, hv1, hv2⟩ := hx j c h2
          have e : o.sz = sz := he.symm.trans (hlen i el h1)
          refine ⟨v, ?_, hv2⟩
          rw [Nat.add_mul] at hv1
          simp only [rd, hb, ← e]; exact hv1
        · rcases hA1 with h3 | ⟨h3, _⟩
          · exact h3
          · exfalso
            apply hne
            have : len = 0 := by omega
            simp [this]
      · cases hn
  · cases hn

theorem run_append_none {t ty e : TypeId} (ht : P.underlying t = some (.slice e)) {i : TypeInfo} (hi : P.info? e = some i) (A B : Option Addr) (sLen sCap c : Nat) (hle : sLen ≤ sCap) (w : World) :
    (Builtin.append_ #[t, t] ty #[.slice A sLen sCap, .slice B 0 c]).run P w = .ok (.slice A sLen sCap) w := by
  cases A <;> cases B <;> simp [Builtin.append_, run_underlying ht, sizeOf, typeInfo, hi, Builtin.lenOf, Builtin.firstCells, hle, loadCells, loadCellsFrom, storeCells]

theorem run_append_fit {t ty e : TypeId} (ht : P.underlying t = some (.slice e)) {i : TypeInfo} (hi : P.info? e = some i) (g o sLen sCap : Nat) (cur : Array Value) (bt : TypeId) (hg : w.heap[g]? = some (.cells cur bt (0, 0)))
    (a : Addr) (m c : Nat) (news : List Value) (hl : news.length = m * i.size) (hnews : ∀ j u, news[j]? = some u → w.cell? (a.add j) = some u) (h1 : ∀ u ∈ news, u.oneCell' = true)
    (hroom : sLen + m ≤ sCap) (hfit : o + sLen * i.size + news.length ≤ cur.size) :
    (Builtin.append_ #[t, t] ty #[.slice (some ⟨g, o, none⟩) sLen sCap, .slice (some a) m c]).run P w =
      .ok (.slice (some ⟨g, o, none⟩) (sLen + m) sCap) (w.setRow g (cur.toList.take (o + sLen * i.size) ++ news ++ cur.toList.drop (o + sLen * i.size + news.length)).toArray) := by
  have hf := run_firstCells_some (P := P) w i.size m a m c news hl hnews
  have hst := run_storeCells_at P g (o + sLen * i.size) bt news 0 cur w hg (by simpa using hfit) h1
  simp only [Nat.add_zero] at hst
  simp [Builtin.append_, run_underlying ht, sizeOf, typeInfo, hi, Builtin.lenOf, hroom, hf, addr_add, hst]

theorem zeroOf_some {t : TypeId} {z : List C} (hz : zeroOf P t = some z) : ∃ i zv, P.info? t = some i ∧ i.zero = some zv ∧ z.length = i.size ∧ ∀ hp : Array Go.Obj, CRs hp S μ K h z zv.cells.toList := by
  unfold zeroOf at hz
  split at hz
  · rename_i i hi
    split at hz
    · rename_i zv hzv
      cases hm : zv.cells.toList.mapM C.ofValue with
      | none => simp [hm] at hz
      | some cs =>
        simp only [hm, Option.bind_some] at hz
        split at hz
        · rename_i hl
          cases hz
          exact ⟨i, zv, hi, hzv, hl, fun hp => mapM_ofValue hm⟩
        · cases hz
    · cases hz
  · cases hz

/-- append that makes a new block -/
theorem append_new {id n k sz gen : Nat} {els : List (List C)} {cs : Array Value} (hr : HeapRel w.heap S μ K h) (s : Sem Next) (e : TypeId)
    (hs : s.run P w = .ok (.value (.slice (some ⟨w.heap.size, 0, none⟩) els.length k)) (w.drew.alloc (.cells cs e))) (hid : id < n) (hn : h.next ≤ n) (hcs : cs.size = k * sz) (hk : els.length ≤ k) (hk2 : k ≤ 9223372036854775807)
    (hg : h.fresh id = gen) (hels : Holds w.heap S μ K h sz els cs) :
    Sound P w S μ K h s (.one (.sl id gen 0 els.length)) { next := n, mem := h.mem.put id { gen := gen, ty := e, sz, live := true, els } } := by
  subst hg
  obtain ⟨ex, hr'⟩ := install hr id n e sz k els cs hid hn hcs hk hk2 hels
  refine ⟨_, _, S, _, _, .inl hs, .one (.sl id _ 0 els.length _ _ _ (Tr.get_put _ _ _) (Nat.le_refl _) fun _ _ => ⟨.inl ?_, ?_, hk⟩), ex, hr', ⟨rfl, rfl, rfl⟩⟩
  · simp
  · simp

theorem holds_app {hp : Array Go.Obj} {sz : Nat} {els : List (List C)} {cs : Array Value} (hold : Holds hp S μ K h sz els cs) (more : Array Value) : Holds hp S μ K h sz els (cs ++ more) := by
  intro i el hi
  obtain ⟨h1, h2⟩ := hold i el hi
  refine ⟨h1, fun j c hj => ?_⟩
  obtain ⟨v, hv, hc⟩ := h2 j c hj
  refine ⟨v, ?_, hc⟩
  rw [Array.getElem?_append_left]
  · exact hv
  · exact (Array.getElem?_eq_some_iff.1 hv).1

theorem append_sound {t el : TypeId} (ht : P.underlying t = some (.slice el)) {i : TypeInfo} (hi : P.info? el = some i) {z : List C} (hz : zeroOf P el = some z) (hsz0 : 0 < i.size) (hb0 : 0 < i.bytes)
    (hr : HeapRel w.heap S μ K h) {x y : Value} {vx vy v : V} {news : List (List C)} {h' : Heap} {fp : FP} (hx : VR w.heap S μ K h vx x) (hy : VR w.heap S μ K h vy y) (hn : elsOf h vy = some news)
    (hs : appendC h el i.size i.bytes vx news = some (v, h', fp)) {ty : TypeId} {s : Sem Next} (hse : s = (do pure (.value (← Builtin.append_ #[t, t] ty #[x, y])))) :
    Sound P w S μ K h s v h' := by
  unfold appendC at hs
  split at hs
  case isFalse => cases hs
  rename_i hall
  have hlen : ∀ (j : Nat) (e : List C), news[j]? = some e → e.length = i.size := fun j e hj => by
    have := List.all_eq_true.1 hall e (List.mem_of_getElem? hj)
    simpa using this
  obtain ⟨⟨B, c, vals, rfl, hvl, hhold, h1, hB⟩⟩ := src_rel hsz0 hr hy hn hlen
  obtain ⟨i', zv, hi', hzv, hzl, hzr⟩ := zeroOf_some (S := S) (μ := μ) (K := K) (h := h) hz
  rw [hi] at hi'; cases hi'
  have hzs : zv.cells.size = i.size := by have := (hzr w.heap).1; simp at this; omega
  have fin : ∀ {val : Value} {w' : World}, (Builtin.append_ #[t, t] ty #[x, .slice B news.length c]).run P w = .ok val w' → s.run P w = .ok (.value val) w' := fun hrun => by
    subst hse; simp [hrun]
  split at hs
  · -- nil
    cases hx with
    | one hc =>
      cases hc with
      | deep hd => cases hd
      | nils A =>
        split at hs
        · rename_i hne
          cases hs
          subst hne
          exact Sound.pure hr (fin (run_append_none ht hi A B 0 0 c (Nat.le_refl _) w)) (.one (.nils A))
        · rename_i hne
          split at hs
          · rename_i hfit
            cases hs
            obtain ⟨b, rfl, hcell⟩ := hB hne
            have hpos : 0 < news.length := List.length_pos_iff.2 hne
            have hnl : news.length ≤ 140737488355328 := Nat.le_trans (Nat.le_mul_of_pos_right _ hb0) hfit
            have hm : maxLen = 9223372036854775807 := rfl
            have hcap := grownCap_ge w news.length 0 el
            have hcap2 := grownCap_le_maxLen w news.length 0 el (by omega)
            have hrun : (Builtin.append_ #[t, t] ty #[.slice A 0 0, .slice (some b) news.length c]).run P w = .ok (.slice (some ⟨w.heap.size, 0, none⟩) news.length (grownCap w news.length 0 el))
                (w.drew.alloc (.cells (vals.toArray ++ Builtin.zeroCells zv.cells (grownCap w news.length 0 el - news.length)) el)) := by
              cases A with
              | none => exact run_append_nil (P := P) w t ty el i zv ht hi hzv b news.length c vals hvl hcell hpos (by omega) (by omega)
              | some a =>
                have := run_append_grow (P := P) w t ty el i zv ht hi hzv a 0 0 [] (by simp) (by simp) b news.length c vals hvl hcell (by omega) (by omega) (growslice_fits (by omega) (by simpa using hfit))
                simpa using this
            refine append_new (id := h.next) (n := h.next + 1) hr s el (fin hrun) (by omega) (by omega) ?_ hcap (by omega) rfl (holds_app hhold _)
            rw [Array.size_append, size_zeroCells, hzs, List.size_toArray, hvl, ← Nat.add_mul]
            congr 1; omega
          · cases hs
  · -- a slice of one's own
    rename_i id gen off len
    split at hs
    case h_2 => cases hs
    rename_i o ha
    split at hs
    case isFalse => cases hs
    rename_i hcond
    obtain ⟨hosz, hoty, hfit0⟩ := hcond
    obtain ⟨A, cap, rfl, hA⟩ := sl_inv hx
    obtain ⟨hA1, hK, hlc⟩ := hA o ha
    obtain ⟨hlk, hg⟩ := Heap.at_look ha
    obtain ⟨hm, hlive⟩ := Heap.look_mem hlk
    obtain ⟨cur, hb, hcs, hk, hk2, hold⟩ := hr.obj id o hlk
    have hold : Holds w.heap S μ K h o.sz o.els cur := hold
    rw [← hosz] at hhold hvl
    -- in place
    have inplace : ∀ (g : Nat), o.gen ≤ g → len + news.length ≤ cap → ∀ els', els' = o.els.take (off + len) ++ news ++ o.els.drop (off + len + news.length) → els'.length ≤ K id →
        Sound P w S μ K h s (.one (.sl id g off (len + news.length))) (h.set id { o with gen := g, els := els' }) := by
      intro g hgg hroom els' hels' hkk
      by_cases hne : news = []
      · subst hne
        simp only [List.length_nil, Nat.add_zero, List.append_nil, List.take_append_drop] at hels' ⊢
        subst hels'
        obtain ⟨ex, hr'⟩ := modify hr (hp' := w.heap) id g o o.els cur hlk hgg hb (fun _ _ => rfl) rfl hcs hk hold
        exact ⟨_, w, S, μ, K, .inl (fin (run_append_none ht hi A B len cap c hlc w)), .one (.sl id g off len A cap { o with gen := g, els := o.els } (Tr.get_put _ _ _) (Nat.le_refl _) fun _ _ => ⟨hA1, hK, hlc⟩), ex, hr', ⟨rfl, rfl, rfl⟩⟩
      · obtain ⟨b, rfl, hcell⟩ := hB hne
        have hpos : 0 < news.length := List.length_pos_iff.2 hne
        obtain rfl : A = some ⟨μ id, off * o.sz, none⟩ := hA1.resolve_right (fun hc => by omega)
        have hsum : off * o.sz + len * o.sz + news.length * o.sz ≤ K id * o.sz := by
          have : (off + len + news.length) * o.sz ≤ K id * o.sz := Nat.mul_le_mul_right _ (by omega)
          rw [Nat.add_mul, Nat.add_mul] at this; exact this
        have hrun := run_append_fit (ty := ty) ht hi (μ id) (off * o.sz) len cap cur o.ty hb b news.length c vals (by rw [hvl, hosz]) hcell h1 hroom (by rw [← hosz]; omega)
        rw [← hosz] at hrun
        have e1 : off * o.sz + len * o.sz = (off + len) * o.sz := by rw [Nat.add_mul]
        rw [e1] at hrun
        have hsp := Holds.splice (p := off + len) hold hhold hvl hfit0 (by rw [Nat.add_mul]; omega)
        rw [← hels'] at hsp
        obtain ⟨ex, hr'⟩ := modify hr (hp' := (w.setRow (μ id) _).heap) id g o els' _ hlk hgg (setRow_heap w (μ id) cur _ o.ty (0, 0) hb) (fun b' hb' => setRow_get w (μ id) b' _ hb') (by simp)
          (by simp only [List.size_toArray, List.length_append, List.length_take, List.length_drop, Array.length_toList, hvl] at *; rw [Nat.add_mul]; omega) hkk hsp
        exact ⟨_, _, S, μ, K, .inl (fin hrun), .one (.sl id g off (len + news.length) _ cap { o with gen := g, els := els' } (Tr.get_put _ _ _) (Nat.le_refl _) fun _ _ => ⟨.inl rfl, hK, hroom⟩), ex, hr', ⟨rfl, rfl, rfl⟩⟩
    split at hs
    · rename_i hin
      cases hs
      have := inplace o.gen (Nat.le_refl _) (by omega) _ rfl (by simp; omega)
      rw [hg] at this
      have e : ({ o with gen := gen, els := o.els.take (off + len) ++ news ++ o.els.drop (off + len + news.length) } : Obj) = { o with els := o.els.take (off + len) ++ news ++ o.els.drop (off + len + news.length) } := by
        rw [← hg]
      rw [e] at this
      exact this
    · rename_i hout
      split at hs
      case isFalse => cases hs
      rename_i hoff
      obtain ⟨rfl, hbytes⟩ := hoff
      cases hs
      have hdrop : o.els.drop (0 + len + news.length) = [] := List.drop_eq_nil_of_le (by omega)
      by_cases hroom : len + news.length ≤ cap
      · have := inplace (gen + 1) (by omega) hroom (o.els.take len ++ news) (by rw [hdrop]; simp) (by simp; omega)
        exact this
      · have hpos : 0 < news.length := by
          rcases Nat.eq_zero_or_pos news.length with h0 | h0
          · omega
          · exact h0
        have hne : news ≠ [] := List.length_pos_iff.1 hpos
        obtain ⟨b, rfl, hcell⟩ := hB hne
        have hnl : len + news.length ≤ 140737488355328 := Nat.le_trans (Nat.le_mul_of_pos_right _ hb0) hbytes
        have hmx : maxLen = 9223372036854775807 := rfl
        have hcap := grownCap_ge w (len + news.length) cap el
        have hcap2 := grownCap_le_maxLen w (len + news.length) cap el (by omega)
        have hlen2 : (o.els.take len).length = len := by simp; omega
        have hrow : len * o.sz ≤ K id * o.sz := Nat.mul_le_mul_right _ (by omega)
        have hA2 : ∃ a, A = some a ∧ (len ≠ 0 → a = ⟨μ id, 0, none⟩) := by
          rcases hA1 with rfl | ⟨h0, a, rfl⟩
          · exact ⟨_, rfl, fun _ => by simp⟩
          · exact ⟨a, rfl, fun hne0 => by omega⟩
        obtain ⟨a, rfl, ha0⟩ := hA2
        have holds : ∀ j u, (cur.toList.take (len * o.sz))[j]? = some u → w.cell? (a.add j) = some u := fun j u hj => by
          rw [List.getElem?_take] at hj
          split at hj
          · rename_i hjl
            have hne0 : len ≠ 0 := by rintro rfl; simp at hjl
            rw [ha0 hne0, addr_add, cell_rd]
            simp only [rd, hb, Nat.zero_add]
            simpa using hj
          · cases hj
        have hlo : (cur.toList.take (len * o.sz)).length = len * i.size := by simp [← hosz]; omega
        have hrun := run_append_grow (P := P) w t ty el i zv ht hi hzv a len cap (cur.toList.take (len * o.sz)) hlo holds b news.length c vals (by rw [hvl, hosz]) hcell (by omega) (by omega) (growslice_fits (by omega) hbytes)
        have hfr : h.fresh id = gen + 1 := by rw [Heap.fresh_of hm, hg]
        have hels : (o.els.take len ++ news).length = len + news.length := by simp; omega
        have hh : Holds w.heap S μ K h o.sz (o.els.take len ++ news) (cur.toList.take (len * o.sz) ++ vals).toArray := by
          have hsp := Holds.splice (p := len) (cur := (cur.toList.take (len * o.sz) ++ vals).toArray) (els := o.els.take len) (vals := vals) ?_ hhold hvl (by omega) (by simp; omega)
          · have e1 : (o.els.take len).drop (len + news.length) = [] := List.drop_eq_nil_of_le (by simp; omega)
            have e2 : (cur.toList.take (len * o.sz) ++ vals).drop (len * o.sz + vals.length) = [] := List.drop_eq_nil_of_le (by simp; omega)
            have e3 : (cur.toList.take (len * o.sz) ++ vals).take (len * o.sz) = cur.toList.take (len * o.sz) := by
              rw [List.take_append_of_le_length (by simp; omega), List.take_take, Nat.min_self]
            simp only [e1, List.append_nil, List.take_take, Nat.min_self] at hsp
            simpa [e2, e3] using hsp
          · intro j e hj
            have hj2 : o.els[j]? = some e := by
              rw [List.getElem?_take] at hj
              split at hj
              · exact hj
              · cases hj
            have hjl : j < len := by have := (List.getElem?_eq_some_iff.1 hj).1; omega
            obtain ⟨h3, h4⟩ := hold j e hj2
            refine ⟨h3, fun k cc hk => ?_⟩
            obtain ⟨v, hv, hc⟩ := h4 k cc hk
            have hkl : k < o.sz := by have := (List.getElem?_eq_some_iff.1 hk).1; omega
            have hidx : j * o.sz + k < len * o.sz := by have := mul_lt_row (off := 0) hjl hkl; omega
            refine ⟨v, ?_, hc⟩
            rw [List.getElem?_toArray, List.getElem?_append_left (by simp; omega), List.getElem?_take, if_pos hidx]
            simpa using hv
        have := append_new (id := id) (n := h.next) (k := grownCap w (len + news.length) cap el) (sz := o.sz) (gen := gen + 1) (els := o.els.take len ++ news)
          (cs := (cur.toList.take (len * o.sz) ++ vals).toArray ++ Builtin.zeroCells zv.cells (grownCap w (len + news.length) cap el - (len + news.length))) hr s el
          (by rw [hels]; refine fin ?_; rw [hrun]; congr 3; simp) (hr.wf id o hm) (Nat.le_refl _) ?_ (by omega) (by omega) hfr (holds_app hh _)
        · rw [hels] at this
          have e : ({ gen := gen + 1, ty := el, sz := o.sz, live := true, els := o.els.take len ++ news } : Obj) = { o with gen := gen + 1, els := o.els.take len ++ news } := by
            cases o; simp at *; subst hlive; exact ⟨hoty.symm, rfl⟩
          rw [e] at this
          exact this
        · rw [Array.size_append, size_zeroCells, hzs, List.size_toArray, List.length_append, hvl, hlo, ← hosz, ← Nat.add_mul, ← Nat.add_mul]
          congr 1; omega
  · cases hs

end Go.AI

/- One operation of the model does what the interpreter says of it: literals, and what is made. -/
namespace Go.AI
open Go

variable {P : Program} {w : World} {S : Nat → Prop} {μ K : Nat → Nat} {h : Heap}

theorem foldl_set_list (off : Nat) : ∀ (vs : List Value) (k : Nat) (cells : Array Value), off + k + vs.length ≤ cells.size →
    (vs.zipIdx k).foldl (fun (cs : Array Value) (x : Value × Nat) => cs.setIfInBounds (off + x.2) x.1) cells = (cells.toList.take (off + k) ++ vs ++ cells.toList.drop (off + k + vs.length)).toArray
  | [], k, cells, _ => by simp
  | v :: vs, k, cells, hl => by
    simp only [List.zipIdx_cons, List.foldl_cons]
    rw [foldl_set_list off vs (k + 1) _ (by simp at hl ⊢; omega)]
    have := list_seg_step cells.toList (off + k) v vs (by simp at hl ⊢; omega)
    simp only [List.length_cons]
    rw [← this]
    simp only [Array.toList_setIfInBounds]
    congr 3

theorem fill_step (off : Nat) (vs cells : Array Value) (hl : off + vs.size ≤ cells.size) :
    vs.zipIdx.foldl (fun (cs : Array Value) (x : Value × Nat) => cs.setIfInBounds (off + x.2) x.1) cells = (cells.toList.take off ++ vs.toList ++ cells.toList.drop (off + vs.toList.length)).toArray := by
  have := foldl_set_list off vs.toList 0 cells (by simpa using hl)
  rw [← Array.foldl_toList, Array.toList_zipIdx]
  simpa using this

/-- the parts of a literal, side by side -/
inductive Parts (hp : Array Go.Obj) (S : Nat → Prop) (μ K : Nat → Nat) (h : Heap) : List (Nat × List C) → List (Nat × Value) → Prop where
  | nil : Parts hp S μ K h [] []
  | cons {i : Nat} {cs : List C} {v : Value} {r : List (Nat × List C)} {r' : List (Nat × Value)} (hc : CRs hp S μ K h cs v.cells.toList) (hr : Parts hp S μ K h r r') : Parts hp S μ K h ((i, cs) :: r) ((i, v) :: r')

theorem fill_lit {hp : Array Go.Obj} {sz : Nat} : ∀ {ps : List (Nat × List C)} {vs : List (Nat × Value)} {els els' : List (List C)} {cells : Array Value}, Parts hp S μ K h ps vs → (∀ p ∈ ps, p.2.length = sz) →
    fillL els ps = some els' → Holds hp S μ K h sz els cells → cells.size = els.length * sz →
    ∃ cells', Instr.fill (fun i => some (i * sz, sz)) cells vs = some cells' ∧ Holds hp S μ K h sz els' cells' ∧ cells'.size = els'.length * sz ∧ els'.length = els.length
  | _, _, els, els', cells, .nil, _, hf, hold, hs => by
    simp only [fillL, Option.some.injEq] at hf
    subst hf
    exact ⟨cells, rfl, hold, hs, rfl⟩
  | _, _, els, els', cells, .cons (i := i) (cs := cs) (v := v) hc hr, hl, hf, hold, hs => by
    simp only [fillL] at hf
    split at hf
    case isFalse => cases hf
    rename_i hi
    have hcl : cs.length = sz := hl (i, cs) (List.mem_cons_self ..)
    have hvs : v.cells.size = sz := by have := hc.1; simp at this; omega
    have hfit : i * sz + v.cells.size ≤ cells.size := by
      have : (i + 1) * sz ≤ els.length * sz := Nat.mul_le_mul_right _ hi
      rw [Nat.add_mul] at this; omega
    have he := List.getElem?_eq_getElem hi
    have hw := Holds.write (off := 0) hold he hc (by omega) (by simpa using hfit)
    have hwe : writeAt els[i] 0 cs = cs := by
      have := (hold i _ he).1
      simp only [writeAt, List.take_zero, List.nil_append, Nat.zero_add]
      rw [List.drop_eq_nil_of_le (by omega), List.append_nil]
    rw [hwe] at hw
    have hst := fill_step (i * sz) v.cells cells hfit
    simp only [Nat.add_zero] at hw
    have hsz2 : (cells.toList.take (i * sz) ++ v.cells.toList ++ cells.toList.drop (i * sz + v.cells.toList.length)).toArray.size = (els.set i cs).length * sz := by
      simp; omega
    obtain ⟨cells', h1, h2, h3, h4⟩ := fill_lit hr (fun p hp => hl p (List.mem_cons_of_mem _ hp)) hf hw hsz2
    refine ⟨cells', ?_, h2, h3, by simpa using h4⟩
    simp only [Instr.fill, hvs, ne_eq, not_true_eq_false, decide_false, Bool.false_or]
    rw [if_neg (by first | omega | (simp; omega))]
    rw [hst]
    exact h1

theorem CRs.write {hp : Array Go.Obj} {z cs : List C} {off : Nat} {cells : Array Value} {vs : List Value} (hz : CRs hp S μ K h z cells.toList) (hc : CRs hp S μ K h cs vs) (hl : off + cs.length ≤ z.length) :
    CRs hp S μ K h (writeAt z off cs) (cells.toList.take off ++ vs ++ cells.toList.drop (off + vs.length)).toArray.toList := by
  have hlen : cs.length = vs.length := hc.1
  have hzl := hz.1
  refine ⟨by simp [writeAt] at hzl ⊢; omega, fun i c v h1 h2 => ?_⟩
  rw [show (writeAt z off cs)[i]? = _ from splice_get z cs off i hl] at h1
  rw [show ((cells.toList.take off ++ vs ++ cells.toList.drop (off + vs.length)).toArray.toList)[i]? = _ from splice_get cells.toList vs off i (by omega)] at h2
  by_cases e1 : i < off
  · rw [if_pos e1] at h1 h2
    exact hz.2 i c v h1 h2
  · rw [if_neg e1] at h1 h2
    by_cases e2 : i < off + cs.length
    · rw [if_pos e2] at h1
      rw [if_pos (by omega)] at h2
      exact hc.2 _ c v h1 h2
    · rw [if_neg e2] at h1
      rw [if_neg (by omega)] at h2
      exact hz.2 i c v h1 h2

theorem fill_build {hp : Array Go.Obj} {places : List (Nat × Nat)} : ∀ {ps : List (Nat × List C)} {vs : List (Nat × Value)} {z z' : List C} {cells : Array Value},
    (∃ qs : List (Nat × Nat × List C), ps = qs.map (fun q => (q.2.1, q.2.2)) ∧ vs.length = qs.length ∧ (∀ (j : Nat) (q : Nat × Nat × List C) (v : Nat × Value), qs[j]? = some q → vs[j]? = some v → v.1 = q.1 ∧ places[q.1]? = some (q.2.1, q.2.2.length) ∧ CRs hp S μ K h q.2.2 v.2.cells.toList)) →
    fillC z ps = some z' → CRs hp S μ K h z cells.toList →
    ∃ cells', Instr.fill (places[·]?) cells vs = some cells' ∧ CRs hp S μ K h z' cells'.toList
  | ps, vs, z, z', cells, ⟨[], hps, hvl, _⟩, hf, hz => by
    subst hps
    have : vs = [] := List.eq_nil_of_length_eq_zero hvl
    subst this
    simp only [List.map_nil, fillC, Option.some.injEq] at hf
    subst hf
    exact ⟨cells, rfl, hz⟩
  | ps, vs, z, z', cells, ⟨q :: qs, hps, hvl, hq⟩, hf, hz => by
    subst hps
    cases vs with
    | nil => simp at hvl
    | cons v vs =>
      obtain ⟨i, u⟩ := v
      obtain ⟨e1, hpl, hc⟩ := hq 0 q (i, u) rfl rfl
      simp only at e1
      subst e1
      simp only [List.map_cons, fillC] at hf
      split at hf
      case isFalse => cases hf
      rename_i hle
      have hul : u.cells.size = q.2.2.length := by have := hc.1; simp at this; omega
      have hzl : z.length = cells.size := by have := hz.1; simpa using this
      have hst := fill_step q.2.1 u.cells cells (by omega)
      obtain ⟨cells', h1, h2⟩ := fill_build (places := places) (vs := vs) ⟨qs, rfl, by simpa using hvl, fun j q' v' hj hv => hq (j + 1) q' v' (by simpa using hj) (by simpa using hv)⟩ hf (CRs.write hz hc hle)
      refine ⟨cells', ?_, h2⟩
      simp only [Instr.fill, hpl, hul, ne_eq, not_true_eq_false, decide_false, Bool.false_or]
      rw [if_neg (by first | omega | (simp; omega)), hst]
      exact h1

end Go.AI

/- Every operation that calls nothing does what the interpreter says of it. -/
namespace Go.AI
open Go

variable {P : Program} {w : World} {S : Nat → Prop} {μ K : Nat → Nat}
variable {e : CEnv} {o : Oper} {op : AOp} {st : St} {locs : Tr V} {a : Act} {v : V} {h' : Heap} {fp : FP}

theorem s_mov {x : Operand} {y : Opd} (hx : e.res x = some y) (hrun : (execOp a.eval o) = pure (.value (a.eval x))) (he : ERel e w.heap S μ K st locs a) (hr : HeapRel w.heap S μ K st.heap)
    (hs : astep st locs (.mov y) = some (v, h', fp)) : Sound P w S μ K st.heap (execOp a.eval o) v h' := by
  simp only [astep, Option.some.injEq, Prod.mk.injEq] at hs
  obtain ⟨rfl, rfl, _⟩ := hs
  exact Sound.pure hr (by rw [hrun]; rfl) (he.res hx)

theorem s_pick {c x y : Operand} {c' x' y' : Opd} (ho : o.op = .pick c x y) (hc : e.res c = some c') (hx : e.res x = some x') (hy : e.res y = some y') (he : ERel e w.heap S μ K st locs a) (hr : HeapRel w.heap S μ K st.heap)
    (hs : astep st locs (.pick c' x' y') = some (v, h', fp)) : Sound P w S μ K st.heap (execOp a.eval o) v h' := by
  simp only [astep, Option.map_eq_some_iff, Prod.mk.injEq] at hs
  obtain ⟨t, ht, rfl, rfl, _⟩ := hs
  obtain ⟨_, hv⟩ := (he.res hc).bool ht
  cases t with
  | true => exact Sound.pure hr (by simp [execOp, ho, hv, asBool]) (he.res hx)
  | false => exact Sound.pure hr (by simp [execOp, ho, hv, asBool]) (he.res hy)

theorem s_boxS {k t n : Nat} {y : Opd} {val : Value} (hrun : (execOp a.eval o).run P w = .ok (.value (.pointer (some ⟨w.heap.size, 0, none⟩))) (w.alloc (.cells val.cells t)))
    (hv : VR w.heap S μ K st.heap (ev st locs y) val) (hr : HeapRel w.heap S μ K st.heap) (hb : st.base + k < st.heap.next)
    (hs : astep st locs (.boxS k t n y) = some (v, h', fp)) : Sound P w S μ K st.heap (execOp a.eval o) v h' := by
  simp only [astep] at hs
  split at hs
  case h_2 => cases hs
  rename_i cs hcs
  split at hs
  case isFalse => cases hs
  rename_i hl
  simp only [Option.some.injEq, Prod.mk.injEq] at hs
  obtain ⟨rfl, rfl, _⟩ := hs
  exact box_sound hr _ t val hrun (hv.cells hcs).1 hl _ _ hb (Nat.le_refl _)

theorem s_boxD {t n : Nat} {y : Opd} {val : Value} (hrun : (execOp a.eval o).run P w = .ok (.value (.pointer (some ⟨w.heap.size, 0, none⟩))) (w.alloc (.cells val.cells t)))
    (hv : VR w.heap S μ K st.heap (ev st locs y) val) (hr : HeapRel w.heap S μ K st.heap)
    (hs : astep st locs (.boxD t n y) = some (v, h', fp)) : Sound P w S μ K st.heap (execOp a.eval o) v h' := by
  simp only [astep] at hs
  split at hs
  case h_2 => cases hs
  rename_i cs hcs
  split at hs
  case isFalse => cases hs
  rename_i hl
  simp only [Option.some.injEq, Prod.mk.injEq] at hs
  obtain ⟨rfl, rfl, _⟩ := hs
  exact box_sound hr _ t val hrun (hv.cells hcs).1 hl _ _ (by omega) (by omega)

theorem run_alloc {t : TypeId} {i : TypeInfo} {z : Value} (hi : P.info? t = some i) (hz : i.zero = some z) (w : World) :
    (Instr.alloc t true (.tuple #[])).run P w = .ok (.pointer (some ⟨w.heap.size, 0, none⟩)) (w.alloc (.cells z.cells t)) := by
  simp [Instr.alloc, zeroValue, typeInfo, hi, hz, newVar, newRow]

theorem s_load {t : TypeId} {x : Operand} {y : Opd} {n : Option Nat} (ho : o.op = .load t x) (hn : loadN P t = some n) (hx : e.res x = some y) (he : ERel e w.heap S μ K st locs a) (hr : HeapRel w.heap S μ K st.heap)
    (hs : astep st locs (.load n y) = some (v, h', fp)) : Sound P w S μ K st.heap (execOp a.eval o) v h' := by
  have hv := he.res hx
  simp only [astep] at hs
  split at hs
  · rename_i id gen el off hy
    rw [hy] at hv
    cases ha : st.heap.at id gen with
    | none => rw [ha] at hs; simp at hs
    | some ob =>
      rw [ha] at hs
      cases hel : ob.els[el]? with
      | none => simp [hel] at hs
      | some cs =>
        simp only [hel, Option.bind_some, Option.map_eq_some_iff, Prod.mk.injEq] at hs
        obtain ⟨u, hu, rfl, rfl, _⟩ := hs
        obtain ⟨hlk, _⟩ := Heap.at_look ha
        obtain ⟨hlen, hcell⟩ := elsAt hr hlk hel
        obtain ⟨val, h1, h2⟩ := load_rel (P := P) (w := w) hn hu (o := el * ob.sz) hcell
        refine Sound.pure hr ?_ h2
        simp [execOp, ho, ptr_inv hv ha, Instr.loadAt, Instr.sureAddr, h1]
  · rename_i el off hy
    rw [hy] at hv
    simp only [Option.map_eq_some_iff, Prod.mk.injEq] at hs
    obtain ⟨u, hu, rfl, rfl, _⟩ := hs
    generalize hax : a.eval x = ax at hv
    cases hv with
    | one hc =>
      cases hc with
      | deep hd => cases hd
      | dp el off b ob vals hS hvv hd =>
        obtain ⟨val, h1, h2⟩ := load_rel (P := P) (w := w) hn hu (o := ob) (fun j c hj => ⟨_, hvv j c hj, hd j c hj⟩)
        refine Sound.pure hr ?_ h2
        simp [execOp, ho, hax, Instr.loadAt, Instr.sureAddr, h1]
  · cases hs

theorem s_store {t : TypeId} {p x : Operand} {q y : Opd} {n : Nat} (ho : o.op = .store t p x) (hn : sizeP P t = some n) (hp : e.res p = some q) (hx : e.res x = some y) (he : ERel e w.heap S μ K st locs a) (hr : HeapRel w.heap S μ K st.heap)
    (hs : astep st locs (.store n q y) = some (v, h', fp)) : Sound P w S μ K st.heap (execOp a.eval o) v h' := by
  have hv := he.res hp
  have hvx := he.res hx
  simp only [astep] at hs
  split at hs
  case h_2 => cases hs
  rename_i id gen el off cs hq hcs
  rw [hq] at hv
  split at hs
  case h_2 => cases hs
  rename_i ob ha
  split at hs
  case h_2 => cases hs
  rename_i ce hel
  split at hs
  case isFalse => cases hs
  rename_i hcond
  simp only [Option.some.injEq, Prod.mk.injEq] at hs
  obtain ⟨rfl, rfl, _⟩ := hs
  exact store_sound hr t hn hv hvx hcs ha hel hcond.1 hcond.2 (by simp [execOp, ho])

theorem s_nilCheck {x : Operand} {y : Opd} (ho : o.op = .nilCheck x) (hx : e.res x = some y) (he : ERel e w.heap S μ K st locs a) (hr : HeapRel w.heap S μ K st.heap)
    (hs : astep st locs (.nilCheck y) = some (v, h', fp)) : Sound P w S μ K st.heap (execOp a.eval o) v h' := by
  have hv := he.res hx
  simp only [astep] at hs
  split at hs
  all_goals first
    | cases hs
    | skip
  · rename_i id gen el off hy
    rw [hy] at hv
    refine Sound.pure hr ?_ hv
    generalize hax : a.eval x = ax at hv
    cases hv with
    | one hc => cases hc with
      | deep hd => cases hd
      | ptr => simp [execOp, ho, hax]
  · rename_i el off hy
    rw [hy] at hv
    refine Sound.pure hr ?_ hv
    generalize hax : a.eval x = ax at hv
    cases hv with
    | one hc => cases hc with
      | deep hd => cases hd
      | dp => simp [execOp, ho, hax]
  · rename_i f caps hy
    rw [hy] at hv
    refine Sound.pure hr ?_ hv
    generalize hax : a.eval x = ax at hv
    cases hv with
    | one hc => cases hc with
      | deep hd => cases hd
      | fn => simp [execOp, ho, hax]

theorem s_bin {bo : BinOp} {t t' : TypeId} {x y : Operand} {x' y' : Opd} (ho : o.op = .binOp bo t x y t') (hx : e.res x = some x') (hy : e.res y = some y') (he : ERel e w.heap S μ K st locs a) (hr : HeapRel w.heap S μ K st.heap)
    (hs : astep st locs (.bin bo (eqTy P t) x' y') = some (v, h', fp)) : Sound P w S μ K st.heap (execOp a.eval o) v h' := by
  have hvx := he.res hx
  have hvy := he.res hy
  simp only [astep] at hs
  split at hs
  case h_2 => cases hs
  rename_i ca cb h1 h2
  rw [h1] at hvx
  rw [h2] at hvy
  simp only [Option.map_eq_some_iff, Prod.mk.injEq] at hs
  obtain ⟨c, hc, rfl, rfl, _⟩ := hs
  cases hvx with
  | one hca =>
    cases hvy with
    | one hcb =>
      obtain ⟨val, h3, h4⟩ := bin_run bo t x y hca hcb hc
      refine Sound.pure hr ?_ (.one h4)
      simp only [execOp, ho]
      generalize (do eqGuard bo t x y (a.eval x) (a.eval y); binOp bo t (a.eval x) (a.eval y) : Sem Value) = s at h3 ⊢
      simp [h3]

theorem s_not {t : TypeId} {x : Operand} {y : Opd} (ho : o.op = .unOp .not t x) (hx : e.res x = some y) (he : ERel e w.heap S μ K st locs a) (hr : HeapRel w.heap S μ K st.heap)
    (hs : astep st locs (.not y) = some (v, h', fp)) : Sound P w S μ K st.heap (execOp a.eval o) v h' := by
  simp only [astep, Option.map_eq_some_iff, Prod.mk.injEq] at hs
  obtain ⟨b, hb, rfl, rfl, _⟩ := hs
  obtain ⟨_, hv⟩ := (he.res hx).bool hb
  exact Sound.pure hr (by simp [execOp, ho, hv, Op.unary]) (.one (.deep (.bool _)))

theorem s_conv {src dst : TypeId} {k : IntKind} {x : Operand} {y : Opd} (ho : o.op = .convert src dst x) (hd : P.underlying dst = some (.int k)) (hsrc : (P.underlying src).isSome = true) (hx : e.res x = some y)
    (he : ERel e w.heap S μ K st locs a) (hr : HeapRel w.heap S μ K st.heap) (hs : astep st locs (.conv k y) = some (v, h', fp)) : Sound P w S μ K st.heap (execOp a.eval o) v h' := by
  simp only [astep, Option.map_eq_some_iff, Prod.mk.injEq] at hs
  obtain ⟨n, hn, rfl, rfl, _⟩ := hs
  obtain ⟨k', _, hv⟩ := (he.res hx).int hn
  have hk : P.intKind dst = k := by simp [Program.intKind, hd]
  have := run_convert_int (P := P) w src dst k' n hsrc (by rw [hk]; exact hd)
  rw [hk] at this
  exact Sound.pure hr (by simp [execOp, ho, hv, this]) (.one (.deep (.int _ _)))

theorem s_len {x : Operand} {t : TypeId} {y : Opd} {str : Bool} (ho : o.op = .call { callee := .builtin .len, args := #[x], argTypes := #[t] }) (hu : if str then P.underlying t = some .string else ∃ e, P.underlying t = some (.slice e)) (hx : e.res x = some y)
    (he : ERel e w.heap S μ K st locs a) (hr : HeapRel w.heap S μ K st.heap) (hs : astep st locs (.len str y) = some (v, h', fp)) : Sound P w S μ K st.heap (execOp a.eval o) v h' := by
  simp only [astep, Option.map_eq_some_iff, Prod.mk.injEq] at hs
  obtain ⟨n, hn, rfl, rfl, _⟩ := hs
  have := len_run (ty := o.type) hu (he.res hx) hn
  exact Sound.pure hr (by simp [execOp, ho, resolve, invoke, builtin, this]) (.one (.deep (.int _ _)))

theorem s_cap {x : Operand} {t el : TypeId} {y : Opd} (ho : o.op = .call { callee := .builtin .cap, args := #[x], argTypes := #[t] }) (hu : P.underlying t = some (.slice el)) (hx : e.res x = some y)
    (he : ERel e w.heap S μ K st locs a) (hr : HeapRel w.heap S μ K st.heap) (hs : astep st locs (.cap y) = some (v, h', fp)) : Sound P w S μ K st.heap (execOp a.eval o) v h' := by
  have hv := he.res hx
  simp only [astep] at hs
  split at hs
  case h_2 => cases hs
  rename_i hy
  rw [hy] at hv
  cases hs
  generalize hax : a.eval x = ax at hv
  have h0 : ∃ A, ax = .slice A 0 0 := by
    cases hv with
    | one hc => cases hc with
      | deep hd => cases hd
      | nils A => exact ⟨A, rfl⟩
  obtain ⟨A, rfl⟩ := h0
  exact Sound.pure hr (by simp [execOp, ho, resolve, invoke, builtin, Builtin.cap_, run_underlying hu, goInt, hax]) (.one (.deep (.int _ _)))

theorem s_extract {x : Operand} {y : Opd} {i : Nat} (ho : o.op = .extract x i) (hx : e.res x = some y) (he : ERel e w.heap S μ K st locs a) (hr : HeapRel w.heap S μ K st.heap)
    (hs : astep st locs (.extract y i) = some (v, h', fp)) : Sound P w S μ K st.heap (execOp a.eval o) v h' := by
  have hv := he.res hx
  simp only [astep] at hs
  split at hs
  case h_2 => cases hs
  rename_i vs hy
  rw [hy] at hv
  simp only [Option.map_eq_some_iff, Prod.mk.injEq] at hs
  obtain ⟨u, hu, rfl, rfl, _⟩ := hs
  generalize hax : a.eval x = ax at hv
  cases hv with
  | tup hl vals hvv hd =>
    have h1 := hvv i u hu
    exact Sound.pure hr (by simp [execOp, ho, hax, Instr.extract, h1]) (hd i u hu)

theorem s_minmax {mx : Bool} {x y : Operand} {x' y' : Opd} {tys : Array TypeId} (ho : o.op = .call { callee := .builtin (if mx then .max else .min), args := #[x, y], argTypes := tys }) (hx : e.res x = some x') (hy : e.res y = some y') (he : ERel e w.heap S μ K st locs a) (hr : HeapRel w.heap S μ K st.heap)
    (hs : astep st locs (.minmax mx x' y') = some (v, h', fp)) : Sound P w S μ K st.heap (execOp a.eval o) v h' := by
  have hvx := he.res hx
  have hvy := he.res hy
  simp only [astep] at hs
  split at hs
  case h_2 => cases hs
  rename_i k n k' m h1 h2
  rw [h1] at hvx
  rw [h2] at hvy
  simp only [Option.some.injEq, Prod.mk.injEq] at hs
  obtain ⟨rfl, rfl, _⟩ := hs
  generalize hax : a.eval x = ax at hvx
  generalize hay : a.eval y = ay at hvy
  cases hvx with
  | one hcx =>
    cases hvy with
    | one hcy =>
      obtain rfl := hcx.int_inv
      obtain rfl := hcy.int_inv
      cases mx with
      | true =>
        refine Sound.pure hr (val := .int k (if m > n then m else n)) ?_ (.one (.deep (.int _ _)))
        simp [execOp, ho, resolve, invoke, builtin, Builtin.max_, Builtin.max2, hax, hay]
      | false =>
        refine Sound.pure hr (val := .int k (if m < n then m else n)) ?_ (.one (.deep (.int _ _)))
        simp [execOp, ho, resolve, invoke, builtin, Builtin.min_, Builtin.min2, hax, hay]

theorem resL_get {l : List Operand} {ys : List Opd} (hl : e.resL l = some ys) : l.length = ys.length ∧ ∀ (i : Nat) (x : Operand) (y : Opd), l[i]? = some x → ys[i]? = some y → e.res x = some y := by
  induction l generalizing ys with
  | nil => simp only [CEnv.resL, Option.some.injEq] at hl; subst hl; simp
  | cons x l ih =>
    simp only [CEnv.resL] at hl
    split at hl
    case h_2 => cases hl
    rename_i y s h1 h2
    cases hl
    obtain ⟨h3, h4⟩ := ih h2
    refine ⟨by simp [h3], fun i x' y' hx hy => ?_⟩
    cases i with
    | zero => simp at hx hy; subst hx; subst hy; exact h1
    | succ i => exact h4 i x' y' (by simpa using hx) (by simpa using hy)

theorem s_mkfn {f : FuncId} {first caps : Array Operand} {ys : List Opd} (ho : o.op = .makeFunc (.func f) first caps) (hf : first.isEmpty = true) (hl : e.resL caps.toList = some ys) (he : ERel e w.heap S μ K st locs a) (hr : HeapRel w.heap S μ K st.heap)
    (hs : astep st locs (.mkfn f ys) = some (v, h', fp)) : Sound P w S μ K st.heap (execOp a.eval o) v h' := by
  simp only [astep, Option.map_eq_some_iff, Prod.mk.injEq] at hs
  obtain ⟨cs, hcs, rfl, rfl, _⟩ := hs
  obtain ⟨h1, h2⟩ := resL_get hl
  obtain ⟨h3, h4⟩ := mapM_some hcs
  have hfe : first = #[] := by simpa using hf
  subst hfe
  have hcl : caps.size = cs.length := by simp at h1; omega
  refine Sound.pure hr (val := .func (.func f) #[] (caps.map a.eval)) (by simp [execOp, ho, Instr.makeFunc]) (.one (.fn f cs _ (by simp [hcl]) (fun i => (((caps.map a.eval)[i]?).getD undef)) (fun i c hi => ?_) (fun i c hi => ?_)))
  · have hlt : i < caps.size := by have := (List.getElem?_eq_some_iff.1 hi).1; omega
    simp [hlt]
  · have hlt : i < caps.size := by have := (List.getElem?_eq_some_iff.1 hi).1; omega
    have hly : i < ys.length := by simp at h1; omega
    have hres := h2 i caps[i] ys[i] (by simp [hlt]) (List.getElem?_eq_getElem hly)
    have hone := h4 i ys[i] c (List.getElem?_eq_getElem hly) hi
    have hv := he.res hres
    unfold one? at hone
    split at hone
    · rename_i c' hc'
      cases hone
      rw [hc'] at hv
      simp only [Array.getElem?_map, hlt, Array.getElem?_eq_getElem, Option.map_some, Option.getD_some]
      cases hv with | one hc => exact hc
    · cases hone

end Go.AI

/- Every operation that calls nothing does what the interpreter says of it: the whole. -/
namespace Go.AI
open Go

variable {P : Program} {w : World} {S : Nat → Prop} {μ K : Nat → Nat}
variable {e : CEnv} {o : Oper} {op : AOp} {st : St} {locs : Tr V} {a : Act} {v : V} {h' : Heap} {fp : FP}

theorem s_fieldAddr {s : TypeId} {x : Operand} {f n : Nat} {fs : Array Field} {fd : Field} {y : Opd} (ho : o.op = .fieldAddr s x f) (hf : fieldsOf P s = some fs) (hfd : fs[f]? = some fd) (hn : sizeP P fd.type = some n) (h0 : n ≠ 0)
    (hx : e.res x = some y) (he : ERel e w.heap S μ K st locs a) (hr : HeapRel w.heap S μ K st.heap) (hs : astep st locs (.fieldAddr fd.offset y) = some (v, h', fp)) : Sound P w S μ K st.heap (execOp a.eval o) v h' := by
  have hv := he.res hx
  simp only [astep] at hs
  split at hs
  case h_2 => cases hs
  rename_i c hy
  rw [hy] at hv
  simp only [Option.map_eq_some_iff, Prod.mk.injEq] at hs
  obtain ⟨p, hp, rfl, rfl, _⟩ := hs
  cases hv with
  | one hc =>
    obtain ⟨val, h1, h2⟩ := fieldAddr_run hf hfd hn h0 hp hc
    exact Sound.pure hr (by simp [execOp, ho, h1]) (.one h2)

theorem s_field {s : TypeId} {x : Operand} {f : Nat} {n : Option Nat} {fs : Array Field} {fd : Field} {y : Opd} (ho : o.op = .field s x f) (hf : fieldsOf P s = some fs) (hfd : fs[f]? = some fd) (hn : loadN P fd.type = some n)
    (hx : e.res x = some y) (he : ERel e w.heap S μ K st locs a) (hr : HeapRel w.heap S μ K st.heap) (hs : astep st locs (.field fd.offset n y) = some (v, h', fp)) : Sound P w S μ K st.heap (execOp a.eval o) v h' := by
  have hv := he.res hx
  simp only [astep] at hs
  split at hs
  case h_2 => cases hs
  rename_i cs hy
  rw [hy] at hv
  simp only [Option.map_eq_some_iff, Prod.mk.injEq] at hs
  obtain ⟨u, hu, rfl, rfl, _⟩ := hs
  obtain ⟨val, h1, h2⟩ := field_run hf hfd hn hu hv
  exact Sound.pure hr (by simp [execOp, ho, h1]) h2

theorem s_indexAddr {t el : TypeId} {x i : Operand} {y j : Opd} {info : TypeInfo} (ho : o.op = .indexAddr t x i) (ht : P.underlying t = some (.slice el)) (hi : P.info? el = some info) (hx : e.res x = some y) (hj : e.res i = some j)
    (he : ERel e w.heap S μ K st locs a) (hr : HeapRel w.heap S μ K st.heap) (hs : astep st locs (.indexAddr info.size y j) = some (v, h', fp)) : Sound P w S μ K st.heap (execOp a.eval o) v h' := by
  have hv := he.res hx
  have hvi := he.res hj
  simp only [astep] at hs
  split at hs
  · rename_i xs n hy hn
    rw [hy] at hv
    obtain ⟨k, _, hk⟩ := hvi.int hn
    split at hs
    case isFalse => cases hs
    rename_i h0
    cases hel : xs[n.toNat]? with
    | none => simp [hel] at hs
    | some cs =>
      simp only [hel, Option.bind_some] at hs
      split at hs
      case isFalse => cases hs
      rename_i hsz
      simp only [Option.some.injEq, Prod.mk.injEq] at hs
      obtain ⟨rfl, rfl, _⟩ := hs
      obtain ⟨val, h1, h2⟩ := indexAddr_dv (P := P) (w := w) (k := k) ht hi hv h0 hel hsz
      exact Sound.pure hr (by simp [execOp, ho, hk, h1]) h2
  · rename_i xs n hy hn
    rw [hy] at hv
    obtain ⟨k, _, hk⟩ := hvi.int hn
    split at hs
    case isFalse => cases hs
    rename_i h0
    cases hel : xs[n.toNat]? with
    | none => simp [hel] at hs
    | some cs =>
      simp only [hel, Option.bind_some] at hs
      split at hs
      case isFalse => cases hs
      rename_i hsz
      simp only [Option.some.injEq, Prod.mk.injEq] at hs
      obtain ⟨rfl, rfl, _⟩ := hs
      obtain ⟨val, h1, h2⟩ := indexAddr_lit (P := P) (w := w) (k := k) ht hi hv h0 hel hsz
      exact Sound.pure hr (by simp [execOp, ho, hk, h1]) h2
  · rename_i id gen off len n hy hn
    rw [hy] at hv
    obtain ⟨k, _, hk⟩ := hvi.int hn
    split at hs
    case h_2 => cases hs
    rename_i ob ha
    split at hs
    case isFalse => cases hs
    rename_i hcond
    simp only [Option.some.injEq, Prod.mk.injEq] at hs
    obtain ⟨rfl, rfl, _⟩ := hs
    obtain ⟨val, h1, h2⟩ := indexAddr_sl (P := P) (w := w) (k := k) ht hi hv ha hcond.1 hcond.2.1 hcond.2.2
    exact Sound.pure hr (by simp [execOp, ho, hk, h1]) h2
  · cases hs

theorem s_index {t : TypeId} {x i : Operand} {y j : Opd} (ho : o.op = .index t x i) (ht : P.underlying t = some .string) (hx : e.res x = some y) (hj : e.res i = some j)
    (he : ERel e w.heap S μ K st locs a) (hr : HeapRel w.heap S μ K st.heap) (hs : astep st locs (.index y j) = some (v, h', fp)) : Sound P w S μ K st.heap (execOp a.eval o) v h' := by
  have hv := he.res hx
  have hvi := he.res hj
  simp only [astep] at hs
  split at hs
  case h_2 => cases hs
  rename_i s n hy hn
  rw [hy] at hv
  obtain ⟨k, _, hk⟩ := hvi.int hn
  split at hs
  case isFalse => cases hs
  rename_i h0
  simp only [Option.map_eq_some_iff, Prod.mk.injEq] at hs
  obtain ⟨b, hb, rfl, rfl, _⟩ := hs
  generalize hax : a.eval x = ax at hv
  cases hv with
  | one hc =>
    obtain rfl := hc.str_inv
    have hg : (⟨s.toArray⟩ : ByteArray)[n.toNat]? = some b := by
      have hlt : n.toNat < s.length := (List.getElem?_eq_some_iff.1 hb).1
      have hlt2 : n.toNat < (⟨s.toArray⟩ : ByteArray).size := by simpa [ByteArray.size] using hlt
      rw [getElem?_pos (⟨s.toArray⟩ : ByteArray) n.toNat hlt2]
      congr 1
      have := (List.getElem?_eq_some_iff.1 hb).2
      rw [← this]; rfl
    exact Sound.pure hr (val := .int .u8 b.toNat) (by simp [execOp, ho, hk, hax, Instr.index, asIntOf, run_underlying ht, h0, hg]) (.one (.deep (.int _ _)))

theorem resO_bound {x : Option Operand} {y : Option Opd} (hx : e.resO x = some y) (he : ERel e w.heap S μ K st locs a) {n : Int} {d : Nat}
    (hn : (y.map (fun u => asInt? (ev st locs u))) ≠ some none) (hd : ((y.map (fun u => asInt? (ev st locs u))).getD none).getD d = n) (h0 : 0 ≤ n) : BoundV (x.map a.eval) d n.toNat := by
  cases x with
  | none =>
    simp only [CEnv.resO, Option.some.injEq] at hx
    subst hx
    simp at hd
    exact .inl ⟨rfl, by omega⟩
  | some x =>
    simp only [CEnv.resO, Option.map_eq_some_iff] at hx
    obtain ⟨u, hu, rfl⟩ := hx
    cases hi : asInt? (ev st locs u) with
    | none => simp [hi] at hn
    | some m =>
      simp [hi] at hd
      subst hd
      obtain ⟨k, _, hk⟩ := (he.res hu).int hi
      exact .inr ⟨k, by simp [hk, Int.toNat_of_nonneg h0]⟩

theorem resO_bound0 {x : Option Operand} {y : Option Opd} (hx : e.resO x = some y) (he : ERel e w.heap S μ K st locs a) {n : Int}
    (hn : (y.map (fun u => asInt? (ev st locs u))) ≠ some none) (hd : ((y.map (fun u => asInt? (ev st locs u))).getD none).getD 0 = n) (h0 : 0 ≤ n) : BoundV (x.map a.eval) 0 n.toNat :=
  resO_bound hx he hn (d := 0) (by simpa using hd) h0

theorem s_slice {t : TypeId} {str : Bool} {n : Nat} {x : Operand} {lo hi : Option Operand} {y : Opd} {l u : Option Opd} (ho : o.op = .slice t x lo hi none)
    (ht : if str then P.underlying t = some .string else ∃ el info, P.underlying t = some (.slice el) ∧ P.info? el = some info ∧ info.size = n)
    (hx : e.res x = some y) (hl : e.resO lo = some l) (hh : e.resO hi = some u) (he : ERel e w.heap S μ K st locs a) (hr : HeapRel w.heap S μ K st.heap)
    (hs : astep st locs (.slice str n y l u) = some (v, h', fp)) : Sound P w S μ K st.heap (execOp a.eval o) v h' := by
  have hv := he.res hx
  simp only [astep] at hs
  have key : (l.map fun u => asInt? (ev st locs u)) ≠ some none ∧ (u.map fun u => asInt? (ev st locs u)) ≠ some none ∧
      (sliceC st.heap str n (ev st locs y) ((l.map fun u => asInt? (ev st locs u)).getD none) ((u.map fun u => asInt? (ev st locs u)).getD none)) = some v ∧ st.heap = h' := by
    split at hs
    · cases hs
    · cases hs
    · rename_i h1 h2
      simp only [Option.map_eq_some_iff, Prod.mk.injEq] at hs
      obtain ⟨v', hv', rfl, rfl, _⟩ := hs
      exact ⟨fun hh => h1 hh, fun hh => h2 hh, hv', rfl⟩
  obtain ⟨hl0, hu0, hsl, rfl⟩ := key
  have fin : ∀ {val : Value}, (Instr.sliceAt t (a.eval x) (lo.map a.eval) (hi.map a.eval) none).run P w = .ok val w → VR w.heap S μ K st.heap v val → Sound P w S μ K st.heap (execOp a.eval o) v st.heap := fun h1 h2 =>
    Sound.pure hr (by simp [execOp, ho, h1]) h2
  unfold sliceC at hsl
  split at hsl
  · rename_i s hy
    rw [hy] at hv
    have ht : P.underlying t = some .string := ht
    simp only at hsl
    split at hsl
    case isFalse => cases hsl
    rename_i hc
    cases hsl
    obtain ⟨c1, c2, c3⟩ := hc
    obtain ⟨val, h1, h2⟩ := str_slice (P := P) (w := w) ht hv (resO_bound0 hl he hl0 rfl c1) (resO_bound hh he hu0 rfl (by omega)) (by omega) (by omega)
    exact fin h1 h2
  · rename_i xs hy
    rw [hy] at hv
    obtain ⟨el, info, ht, hinfo, hin⟩ := ht
    simp only at hsl
    split at hsl
    case isFalse => cases hsl
    rename_i hc
    cases hsl
    obtain ⟨c1, c2, c3, c4⟩ := hc
    obtain ⟨val, h1, h2⟩ := dv_slice (P := P) (w := w) ht hinfo hv (fun cs hcs => by rw [List.head?_eq_getElem?, hcs] at c4; rw [hin]; simpa using c4) (resO_bound0 hl he hl0 rfl c1) (resO_bound hh he hu0 rfl (by omega)) (by omega) (by omega)
    exact fin h1 h2
  · rename_i hy
    rw [hy] at hv
    obtain ⟨el, info, ht, hinfo, hin⟩ := ht
    simp only at hsl
    split at hsl
    case isFalse => cases hsl
    rename_i hc
    cases hsl
    obtain ⟨c1, c2, c3⟩ := hc
    have b1 := resO_bound0 hl he hl0 rfl c1
    have b2 := resO_bound hh he hu0 rfl (show 0 ≤ ((u.map fun u => asInt? (ev st locs u)).getD none).getD ((0 : Nat) : Int) by simpa using Int.le_trans c1 c2)
    have e1 : (((l.map fun u => asInt? (ev st locs u)).getD none).getD 0).toNat = 0 := by simp at c1 c2 c3 ⊢; omega
    have e2 : (((u.map fun u => asInt? (ev st locs u)).getD none).getD ((0 : Nat) : Int)).toNat = 0 := by simp at c1 c2 c3 ⊢; omega
    rw [e1] at b1
    rw [e2] at b2
    obtain ⟨val, h1, h2⟩ := nils_slice (P := P) (w := w) ht hinfo hv b1 b2
    exact fin h1 h2
  · rename_i id gen off len hy
    rw [hy] at hv
    obtain ⟨el, info, ht, hinfo, hin⟩ := ht
    simp only at hsl
    split at hsl
    case h_2 => cases hsl
    rename_i ob ha
    split at hsl
    case isFalse => cases hsl
    rename_i hc
    cases hsl
    obtain ⟨c1, c2, c3, c4⟩ := hc
    obtain ⟨val, h1, h2⟩ := sl_slice (P := P) (w := w) ht hinfo hr hv ha (by rw [hin]; exact c4) (resO_bound0 hl he hl0 rfl c1) (resO_bound hh he hu0 rfl (by omega)) (by omega) (by omega)
    exact fin h1 h2
  · cases hsl

end Go.AI

/- Every operation that calls nothing does what the interpreter says of it: assembled. -/
namespace Go.AI
open Go

variable {P : Program} {w : World} {S : Nat → Prop} {μ K : Nat → Nat}
variable {e : CEnv} {o : Oper} {op : AOp} {st : St} {locs : Tr V} {a : Act} {v : V} {h' : Heap} {fp : FP}

theorem s_append {x y : Operand} {x' y' : Opd} {t el : TypeId} {i : TypeInfo} {z : List C} (ho : o.op = .call { callee := .builtin .append, args := #[x, y], argTypes := #[t, t] }) (ht : P.underlying t = some (.slice el)) (hi : P.info? el = some i)
    (hz : zeroOf P el = some z) (h0 : 0 < i.size) (hb : 0 < i.bytes) (hx : e.res x = some x') (hy : e.res y = some y') (he : ERel e w.heap S μ K st locs a) (hr : HeapRel w.heap S μ K st.heap)
    (hs : astep st locs (.append el i.size i.bytes x' y') = some (v, h', fp)) : Sound P w S μ K st.heap (execOp a.eval o) v h' := by
  have hvx := he.res hx
  have hvy := he.res hy
  simp only [astep, Option.map_eq_some_iff] at hs
  obtain ⟨⟨v1, h1, fp1⟩, hb1, heq⟩ := hs
  simp only [Prod.mk.injEq] at heq
  obtain ⟨rfl, rfl, _⟩ := heq
  cases hn : elsOf st.heap (ev st locs y') with
  | none => simp [hn] at hb1
  | some news =>
    simp only [hn, Option.bind_some] at hb1
    exact append_sound ht hi hz h0 hb hr hvx hvy hn hb1 (ty := o.type) (by simp [execOp, ho, resolve, invoke, builtin])

theorem holds_replicate {hp : Array Go.Obj} {h : Heap} {z : List C} {zc : Array Value} {sz : Nat} (hz : CRs hp S μ K h z zc.toList) (hl : z.length = sz) (n m : Nat) (hnm : n * sz ≤ m) (f : Array Value)
    (hf : ∀ k, k < m → f[k]? = zc[k % zc.size]?) : Holds hp S μ K h sz (List.replicate n z) f := by
  have hzs : zc.size = sz := by have := hz.1; simp at this; omega
  intro i el hi
  have hin : i < n := by have := (List.getElem?_eq_some_iff.1 hi).1; simpa using this
  rw [List.getElem?_replicate, if_pos hin] at hi
  cases hi
  refine ⟨hl, fun j c hj => ?_⟩
  have hjl : j < sz := by have := (List.getElem?_eq_some_iff.1 hj).1; omega
  have hk : i * sz + j < m := by have := mul_lt_row (off := 0) hin hjl; omega
  have hmod : (i * sz + j) % sz = j := by rw [Nat.mul_comm, Nat.mul_add_mod]; exact Nat.mod_eq_of_lt hjl
  obtain ⟨v, hv, hc⟩ := hz.get hj
  exact ⟨v, by rw [hf _ hk, hzs, hmod]; simpa using hv, hc⟩

theorem s_mkSlice {t el : TypeId} {l c : Operand} {y u : Opd} {i : TypeInfo} {z : List C} (ho : o.op = .makeSlice t l c) (ht : P.underlying t = some (.slice el)) (hi : P.info? el = some i) (hz : zeroOf P el = some z)
    (hl : e.res l = some y) (hc : e.res c = some u) (he : ERel e w.heap S μ K st locs a) (hr : HeapRel w.heap S μ K st.heap)
    (hs : astep st locs (.mkSlice el i.size i.bytes z y u) = some (v, h', fp)) : Sound P w S μ K st.heap (execOp a.eval o) v h' := by
  simp only [astep] at hs
  split at hs
  case h_2 => cases hs
  rename_i n m hn hm
  split at hs
  case isFalse => cases hs
  rename_i hcond
  obtain ⟨c1, c2, c3, c4, c5, c6⟩ := hcond
  simp only [Option.some.injEq, Prod.mk.injEq] at hs
  obtain ⟨rfl, rfl, _⟩ := hs
  obtain ⟨k1, _, e1⟩ := (he.res hl).int hn
  obtain ⟨k2, _, e2⟩ := (he.res hc).int hm
  obtain ⟨i', zv, hi', hzv, hzl, hzr⟩ := zeroOf_some (S := S) (μ := μ) (K := K) (h := st.heap) hz
  rw [hi] at hi'; cases hi'
  have hzs : zv.cells.size = i.size := by have := (hzr w.heap).1; simp at this; omega
  have hrun := run_make (P := P) w t el i zv ht hi hzv k1 k2 n m c1 c2 (by rw [Int.mul_comm]; exact c3) c4
  have hsz : (madeCells zv.cells (m.toNat * i.size)).size = m.toNat * i.size := size_madeCells _ _
  have hh : Holds w.heap S μ K st.heap i.size (List.replicate n.toNat z) (madeCells zv.cells (m.toNat * i.size)) := by
    refine holds_replicate (hzr w.heap) c5 n.toNat (m.toNat * i.size) (Nat.mul_le_mul_right _ (by omega)) _ (fun k hk => ?_)
    have hlt : k % zv.cells.size < zv.cells.size := Nat.mod_lt _ (by omega)
    simp only [madeCells, Array.getElem?_map]
    rw [Array.getElem?_eq_getElem (by simpa using hk)]
    simp [hlt]
  obtain ⟨ex, hr'⟩ := install hr st.heap.next (st.heap.next + 1) el i.size m.toNat (List.replicate n.toNat z) _ (by omega) (by omega) hsz (by simp; omega) (by omega) hh
  have hrun' : (execOp a.eval o).run P w = .ok (.value (.slice (some ⟨w.heap.size, 0, none⟩) n.toNat m.toNat)) (w.alloc (.cells (madeCells zv.cells (m.toNat * i.size)) el)) := by simp [execOp, ho, e1, e2, hrun]
  refine ⟨_, _, S, _, _, .inl hrun', .one (.sl _ _ 0 n.toNat _ _ _ (Tr.get_put _ _ _) (Nat.le_refl _) fun _ _ => ⟨.inl ?_, ?_, by omega⟩), ex, hr', ⟨rfl, rfl, rfl⟩⟩
  · simp
  · simp

theorem run_append_zeros (t u ty el : TypeId) (i : TypeInfo) (z : Value) (k : IntKind) (ht : P.underlying t = some (.slice el)) (k' : IntKind) (hu : P.underlying u = some (.int k')) (hi : P.info? el = some i) (hz : i.zero = some z) (hs : 0 < i.size)
    (A : Option Addr) (m : Nat) (h0 : 0 < m) (h48 : m * i.bytes ≤ 140737488355328) (h63 : m ≤ 140737488355328) :
    (Builtin.append_ #[t, u] ty #[.slice A 0 0, .int k (m : Int)]).run P w =
      .ok (.slice (some ⟨w.heap.size, 0, none⟩) m (grownCap w m 0 el)) (w.drew.alloc (.cells (Builtin.zeroCells z.cells m ++ Builtin.zeroCells z.cells (grownCap w m 0 el - m)) el)) := by
  have hn : m ≠ 0 := by omega
  have hw : IntKind.i64.wrap (m : Int) = (m : Int) := IntWalk.i64_in _ (by omega)
  have g1 : ¬ ((m : Int) < 0) := by omega
  have g2 : ¬ (281474976710656 < (m : Int) * (i.bytes : Int)) := by
    have e : (m : Int) * (i.bytes : Int) = ((m * i.bytes : Nat) : Int) := (Int.natCast_mul m i.bytes).symm
    rw [e]; omega
  have h63' : ¬ (9223372036854775807 < (m : Int)) := by omega
  have h48' : ¬ (281474976710656 < Builtin.nextslicecap m 0 * i.bytes) := by rw [nextslicecap_zero h0]; omega
  have hms : ¬ (m * i.size = 0) := by have := Nat.mul_pos h0 hs; omega
  cases A <;> simp [Builtin.append_, run_underlying ht, run_underlying hu, sizeOf, typeInfo, zeroValue, hi, hz, hw, g1, g2, hn, h63', h48', Question.forced, run_firstCells_none, newRow, grownCap, Builtin.firstCells, loadCells, loadCellsFrom, hms, asInt, asIntOf]

theorem s_appendZ {x n : Operand} {x' n' : Opd} {t u el : TypeId} {i : TypeInfo} {z : List C} {k' : IntKind} (ho : o.op = .call { callee := .builtin .append, args := #[x, n], argTypes := #[t, u] }) (ht : P.underlying t = some (.slice el)) (hu : P.underlying u = some (.int k'))
    (hi : P.info? el = some i) (hz : zeroOf P el = some z) (h0 : 0 < i.size) (hx : e.res x = some x') (hy : e.res n = some n') (he : ERel e w.heap S μ K st locs a) (hr : HeapRel w.heap S μ K st.heap)
    (hs : astep st locs (.appendZ el i.size i.bytes z x' n') = some (v, h', fp)) : Sound P w S μ K st.heap (execOp a.eval o) v h' := by
  have hvx := he.res hx
  simp only [astep] at hs
  split at hs
  case h_2 => cases hs
  rename_i m hxn hm
  rw [hxn] at hvx
  split at hs
  case isFalse => cases hs
  rename_i hcond
  obtain ⟨c1, c2, c3, c4⟩ := hcond
  simp only [Option.some.injEq, Prod.mk.injEq] at hs
  obtain ⟨rfl, rfl, _⟩ := hs
  obtain ⟨k1, _, e1⟩ := (he.res hy).int hm
  obtain ⟨i', zv, hi', hzv, hzl, hzr⟩ := zeroOf_some (S := S) (μ := μ) (K := K) (h := st.heap) hz
  rw [hi] at hi'; cases hi'
  have hzs : zv.cells.size = i.size := by have := (hzr w.heap).1; simp at this; omega
  generalize hax : a.eval x = ax at hvx
  have hA : ∃ A, ax = .slice A 0 0 := by
    cases hvx with
    | one hc => cases hc with
      | deep hd => cases hd
      | nils A => exact ⟨A, rfl⟩
  obtain ⟨A, rfl⟩ := hA
  obtain ⟨mm, rfl⟩ : ∃ mm : Nat, m = mm := ⟨m.toNat, by omega⟩
  simp only [Int.toNat_natCast]
  have c2' : mm * i.bytes ≤ 140737488355328 := by
    have e : (mm : Int) * (i.bytes : Int) = ((mm * i.bytes : Nat) : Int) := (Int.natCast_mul mm i.bytes).symm
    rw [e] at c2; omega
  have hrun := run_append_zeros (P := P) (w := w) t u o.type el i zv k1 ht k' hu hi hzv h0 A mm (by omega) c2' (by omega)
  have hm' : maxLen = 9223372036854775807 := rfl
  have hcap := grownCap_ge w mm 0 el
  have hcap2 := grownCap_le_maxLen w mm 0 el (by omega)
  have hzc : ∀ (q k : Nat), k < q * i.size → (Builtin.zeroCells zv.cells q)[k]? = zv.cells[k % zv.cells.size]? := by
    intro q k hk
    have hlt : k % zv.cells.size < zv.cells.size := Nat.mod_lt _ (by omega)
    simp only [Builtin.zeroCells, Array.getElem?_map]
    rw [Array.getElem?_eq_getElem (by simp [hzs]; exact hk)]
    simp [hlt]
  have hh : Holds w.heap S μ K st.heap i.size (List.replicate mm z) (Builtin.zeroCells zv.cells mm) :=
    holds_replicate (hzr w.heap) c4 mm (mm * i.size) (Nat.le_refl _) _ (fun k hk => hzc mm k hk)
  have hl : (List.replicate mm z).length = mm := by simp
  have hsound := append_new (P := P) (w := w) (id := st.heap.next) (n := st.heap.next + 1) (sz := i.size) (k := grownCap w mm 0 el) (els := List.replicate mm z) (cs := Builtin.zeroCells zv.cells mm ++ Builtin.zeroCells zv.cells (grownCap w mm 0 el - mm)) hr (execOp a.eval o) el
    (by rw [hl]; simp [execOp, ho, resolve, invoke, builtin, hax, e1, hrun]) (by omega) (by omega) (by rw [Array.size_append, size_zeroCells, size_zeroCells, hzs, ← Nat.add_mul]; congr 1; omega) (by rw [hl]; exact hcap) (by omega) rfl (holds_app hh _)
  rw [hl] at hsound
  exact hsound

theorem litOf_len {st : St} {locs : Tr V} {sz : Nat} : ∀ {ps : List (Nat × Opd)} {l : List (Nat × List C)}, litOf st locs sz ps = some l → ∀ p ∈ l, p.2.length = sz
  | [], l, hl => by simp only [litOf, Option.some.injEq] at hl; subst hl; simp
  | (i, x) :: r, l, hl => by
    simp only [litOf] at hl
    split at hl
    case h_2 => cases hl
    rename_i cs l' h1 h2
    split at hl
    case isFalse => cases hl
    rename_i hc
    cases hl
    intro p hp
    rcases List.mem_cons.1 hp with rfl | hp
    · exact hc
    · exact litOf_len h2 p hp

theorem litOf_parts {sz : Nat} (he : ERel e w.heap S μ K st locs a) : ∀ {os : List (Nat × Operand)} {ps : List (Nat × Opd)} {l : List (Nat × List C)}, litC e os = some ps → litOf st locs sz ps = some l →
    Parts w.heap S μ K st.heap l (os.map fun (i, x) => (i, a.eval x))
  | [], ps, l, h1, h2 => by
    simp only [litC, Option.some.injEq] at h1; subst h1
    simp only [litOf, Option.some.injEq] at h2; subst h2
    exact .nil
  | (i, x) :: r, ps, l, h1, h2 => by
    simp only [litC] at h1
    split at h1
    case h_2 => cases h1
    rename_i y s hy hs
    cases h1
    simp only [litOf] at h2
    split at h2
    case h_2 => cases h2
    rename_i cs l' h3 h4
    split at h2
    case isFalse => cases h2
    cases h2
    exact .cons ((he.res hy).cells h3).1 (litOf_parts he hs h4)

theorem lit_run {t el : TypeId} {len n : Nat} {os : Array (Nat × Operand)} {ps : List (Nat × Opd)} {i : TypeInfo} {z : List C} {els : List (List C)} (ht : P.underlying t = some (.slice el)) (hi : P.info? el = some i) (hz : zeroOf P el = some z)
    (hn : i.size = n) (h0 : 0 < n) (hle : len * n ≤ 2 ^ 24) (hl : litC e os.toList = some ps) (he : ERel e w.heap S μ K st locs a) (hs : (litOf st locs n ps).bind (fillL (List.replicate len z)) = some els) :
    ∃ cells : Array Value, (Instr.buildSlice t len (os.map fun (i, x) => (i, a.eval x))).run P w = .ok (.slice (some ⟨w.heap.size, 0, none⟩) len len) (w.alloc (.cells cells el)) ∧ Holds w.heap S μ K st.heap n els cells ∧ cells.size = len * n ∧ els.length = len := by
  cases hlo : litOf st locs n ps with
  | none => simp [hlo] at hs
  | some l =>
    simp only [hlo, Option.bind_some] at hs
    obtain ⟨i', zv, hi', hzv, hzl, hzr⟩ := zeroOf_some (S := S) (μ := μ) (K := K) (h := st.heap) hz
    rw [hi] at hi'; cases hi'
    have hzs : zv.cells.size = n := by have := (hzr w.heap).1; simp at this; omega
    have hbase : Holds w.heap S μ K st.heap n (List.replicate len z) ((Array.range (len * n)).map (zv.cells[· % zv.cells.size]!)) := by
      refine holds_replicate (hzr w.heap) (by omega) len (len * n) (Nat.le_refl _) _ (fun k hk => ?_)
      have hlt : k % zv.cells.size < zv.cells.size := Nat.mod_lt _ (by omega)
      simp only [Array.getElem?_map]
      rw [Array.getElem?_eq_getElem (by simpa using hk)]
      simp [hlt]
    obtain ⟨cells, h1, h2, h3, h4⟩ := fill_lit (litOf_parts he hl hlo) (litOf_len hlo) hs hbase (by simp)
    have h4' : els.length = len := by simpa using h4
    refine ⟨cells, ?_, h2, by rw [h3, h4'], h4'⟩
    have hle' : ¬ (16777216 < len * n) := by have : (2 : Nat) ^ 24 = 16777216 := by decide
                                             omega
    have h1' : Instr.fill (fun i => some (i * n, n)) ((Array.range (len * n)).map (zv.cells[· % zv.cells.size]!)) (os.map fun (i, x) => (i, a.eval x)).toList = some cells := by
      simpa using h1
    by_cases hz0 : len * n = 0
    · have hzc : ((Array.range (len * n)).map (zv.cells[· % zv.cells.size]!)) = ((Array.range 0).map ((#[] : Array Value)[· % (#[] : Array Value).size]!)) := by rw [hz0]; simp
      rw [hzc] at h1'
      simp only [Instr.buildSlice, Sem.run_bind, run_underlying ht, Result.andThen_ok, run_sizeOf hi, hn, gt_iff_lt, show (2 : Nat) ^ 24 = 16777216 by decide, hz0, Nat.not_lt_zero, if_false, if_true, Sem.run_pure, h1', newRow, run_newObj]
      rfl
    · simp only [Instr.buildSlice, Sem.run_bind, run_underlying ht, Result.andThen_ok, run_sizeOf hi, hn, gt_iff_lt, show (2 : Nat) ^ 24 = 16777216 by decide, hle', if_false, hz0, zeroValue, typeInfo, run_program, hi, hzv, Sem.run_pure, h1', newRow, run_newObj]
      rfl

theorem s_lit {t el : TypeId} {len n : Nat} {os : Array (Nat × Operand)} {ps : List (Nat × Opd)} {i : TypeInfo} {z : List C} (ho : o.op = .buildSlice t len os) (ht : P.underlying t = some (.slice el)) (hi : P.info? el = some i) (hz : zeroOf P el = some z)
    (hn : i.size = n) (h0 : 0 < n) (hle : len * n ≤ 2 ^ 24) (hl : litC e os.toList = some ps) (he : ERel e w.heap S μ K st locs a) (hr : HeapRel w.heap S μ K st.heap)
    (hs : astep st locs (.lit n len z ps) = some (v, h', fp)) : Sound P w S μ K st.heap (execOp a.eval o) v h' := by
  simp only [astep, Option.map_eq_some_iff, Prod.mk.injEq] at hs
  obtain ⟨els, hels, rfl, rfl, _⟩ := hs
  obtain ⟨cells, h1, h2, h3, h4⟩ := lit_run ht hi hz hn h0 hle hl he hels
  obtain ⟨ex, hr'⟩ := pushS hr cells el
  have hrun : (execOp a.eval o).run P w = .ok (.value (.slice (some ⟨w.heap.size, 0, none⟩) len len)) (w.alloc (.cells cells el)) := by simp [execOp, ho, h1]
  by_cases hne : els = []
  · rw [if_pos hne]
    subst hne
    have : len = 0 := by simpa using h4.symm
    subst this
    exact ⟨_, _, _, μ, K, .inl hrun, .one (.nils _), ex, hr', ⟨rfl, rfl, rfl⟩⟩
  · rw [if_neg hne]
    refine ⟨_, _, _, μ, K, .inl hrun, ?_, ex, hr', ⟨rfl, rfl, rfl⟩⟩
    subst h4
    refine .lit els w.heap.size n (fun i j => (cells[i * n + j]?).getD undef) (.inr rfl) (fun i el' hi' => (h2 i el' hi').1) (fun i el' j c hi' hj => ?_) (fun i el' j c hi' hj => ?_)
    · obtain ⟨u, hu, hc⟩ := (h2 i el' hi').2 j c hj
      have hb : (w.alloc (.cells cells el)).heap[w.heap.size]? = some (.cells cells el (0, 0)) := heap_alloc_new w _
      simp only [rd, hb, hu, Option.getD_some]
    · obtain ⟨u, hu, hc⟩ := (h2 i el' hi').2 j c hj
      simp only [hu, Option.getD_some]
      exact hc.ext hr ex

theorem s_litD {t el : TypeId} {len n : Nat} {os : Array (Nat × Operand)} {ps : List (Nat × Opd)} {i : TypeInfo} {z : List C} (ho : o.op = .buildSlice t len os) (ht : P.underlying t = some (.slice el)) (hi : P.info? el = some i) (hz : zeroOf P el = some z)
    (hn : i.size = n) (h0 : 0 < n) (hle : len * n ≤ 2 ^ 24) (hl : litC e os.toList = some ps) (he : ERel e w.heap S μ K st locs a) (hr : HeapRel w.heap S μ K st.heap)
    (hs : astep st locs (.litD el n len z ps) = some (v, h', fp)) : Sound P w S μ K st.heap (execOp a.eval o) v h' := by
  simp only [astep, Option.map_eq_some_iff, Prod.mk.injEq] at hs
  obtain ⟨els, hels, rfl, rfl, _⟩ := hs
  obtain ⟨cells, h1, h2, h3, h4⟩ := lit_run ht hi hz hn h0 hle hl he hels
  subst h4
  have hm : els.length ≤ 9223372036854775807 := by
    have : els.length ≤ els.length * n := Nat.le_mul_of_pos_right _ h0
    have h5 : (2 : Nat) ^ 24 = 16777216 := by decide
    omega
  obtain ⟨ex, hr'⟩ := install hr st.heap.next (st.heap.next + 1) el n els.length els cells (by omega) (by omega) h3 (Nat.le_refl _) hm h2
  have hrun' : (execOp a.eval o).run P w = .ok (.value (.slice (some ⟨w.heap.size, 0, none⟩) els.length els.length)) (w.alloc (.cells cells el)) := by simp [execOp, ho, h1]
  refine ⟨_, _, S, _, _, .inl hrun', .one (.sl _ _ 0 els.length _ _ _ (Tr.get_put _ _ _) (Nat.le_refl _) fun _ _ => ⟨.inl ?_, ?_, Nat.le_refl _⟩), ex, hr', ⟨rfl, rfl, rfl⟩⟩
  · simp
  · simp

theorem partsC_rel {fs : Array Field} (he : ERel e w.heap S μ K st locs a) : ∀ {os : List (Nat × Operand)} {ps : List (Nat × Nat × Opd)} {l : List (Nat × List C)}, partsC P e fs os = some ps → partsOf st locs ps = some l →
    ∃ qs : List (Nat × Nat × List C), l = qs.map (fun q => (q.2.1, q.2.2)) ∧ os.length = qs.length ∧ ∀ (j : Nat) (q : Nat × Nat × List C) (x : Nat × Operand), qs[j]? = some q → os[j]? = some x →
      x.1 = q.1 ∧ (∃ f, fs[q.1]? = some f ∧ f.offset = q.2.1 ∧ sizeP P f.type = some q.2.2.length) ∧ CRs w.heap S μ K st.heap q.2.2 (a.eval x.2).cells.toList
  | [], ps, l, h1, h2 => by
    simp only [partsC, Option.some.injEq] at h1; subst h1
    simp only [partsOf, Option.some.injEq] at h2; subst h2
    exact ⟨[], rfl, rfl, fun j q x hq => by simp at hq⟩
  | (i, x) :: r, ps, l, h1, h2 => by
    simp only [partsC] at h1
    split at h1
    case h_2 => cases h1
    rename_i f y s hf hy hs
    simp only [Option.map_eq_some_iff] at h1
    obtain ⟨n, hn, rfl⟩ := h1
    simp only [partsOf] at h2
    split at h2
    case h_2 => cases h2
    rename_i cs l' h3 h4
    split at h2
    case isFalse => cases h2
    rename_i hcl
    cases h2
    obtain ⟨qs, h5, h6, h7⟩ := partsC_rel he hs h4
    refine ⟨(i, f.offset, cs) :: qs, by simp [h5], by simp [h6], fun j q x' hq hx => ?_⟩
    cases j with
    | zero =>
      simp at hq hx; subst hq; subst hx
      exact ⟨rfl, ⟨f, hf, rfl, by rw [hn, hcl]⟩, ((he.res hy).cells h3).1⟩
    | succ j => exact h7 j q x' (by simpa using hq) (by simpa using hx)

theorem places_get : ∀ {fs : List Field} {places : List (Nat × Nat)}, fs.mapM (fun f => (P.info? f.type).map fun i => (f.offset, i.size)) = some places → ∀ (j : Nat) (f : Field) (n : Nat), fs[j]? = some f → sizeP P f.type = some n → places[j]? = some (f.offset, n) := by
  intro fs places hm j f n hj hn
  obtain ⟨h1, h2⟩ := mapM_some hm
  have hlt : j < fs.length := (List.getElem?_eq_some_iff.1 hj).1
  have hlt2 : j < places.length := by omega
  have := h2 j f places[j] hj (List.getElem?_eq_getElem hlt2)
  obtain ⟨i, hi, hin⟩ := sizeP_some hn
  rw [hi] at this
  simp only [Option.map_some, Option.some.injEq] at this
  rw [List.getElem?_eq_getElem hlt2, ← this, hin]

theorem s_build {t : TypeId} {os : Array (Nat × Operand)} {ps : List (Nat × Nat × Opd)} {fs : Array Field} {z : List C} {places : List (Nat × Nat)} (ho : o.op = .build t os) (hf : fieldsOf P t = some fs) (hz : zeroOf P t = some z)
    (hpl : fs.toList.mapM (fun f => (P.info? f.type).map fun i => (f.offset, i.size)) = some places)
    (hp : partsC P e fs os.toList = some ps) (he : ERel e w.heap S μ K st locs a) (hr : HeapRel w.heap S μ K st.heap)
    (hs : astep st locs (.build z ps) = some (v, h', fp)) : Sound P w S μ K st.heap (execOp a.eval o) v h' := by
  simp only [astep, Option.map_eq_some_iff, Prod.mk.injEq] at hs
  obtain ⟨cs, hcs, rfl, rfl, _⟩ := hs
  cases hl : partsOf st locs ps with
  | none => simp [hl] at hcs
  | some l =>
    simp only [hl, Option.bind_some] at hcs
    obtain ⟨i, zv, hi, hzv, hzl, hzr⟩ := zeroOf_some (S := S) (μ := μ) (K := K) (h := st.heap) hz
    obtain ⟨qs, h5, h6, h7⟩ := partsC_rel he hp hl
    have hu := fieldsOf_some hf
    obtain ⟨cells, h1, h2⟩ := fill_build (places := places) (vs := (os.toList.map fun (i, x) => (i, a.eval x))) ⟨qs, h5, by simpa using h6, fun j q v' hq hv => by
        simp only [List.getElem?_map, Option.map_eq_some_iff] at hv
        obtain ⟨x, hx, rfl⟩ := hv
        obtain ⟨e1, ⟨f, hf1, hf2, hf3⟩, e3⟩ := h7 j q x hq hx
        refine ⟨e1, ?_, e3⟩
        have := places_get hpl q.1 f _ (by simpa using hf1) hf3
        rw [this, hf2]⟩ hcs (hzr w.heap)
    have hb : P.built t (os.map fun (i, x) => (i, a.eval x)).toList = some cells := by
      simp only [Program.built, hi, hu, hzv, hpl]
      simpa using h1
    exact Sound.pure hr (by simp [execOp, ho, run_build w t _ cells hb]) (.agg h2)

theorem bytesOf_get : ∀ {news : List (List C)} {l : List UInt8}, bytesOf news = some l → l.length = news.length ∧ ∀ (i : Nat) (el : List C), news[i]? = some el → ∃ b, l[i]? = some b ∧ el = [.int .u8 (b.toNat : Int)]
  | [], l, h => by
    simp only [bytesOf, Option.some.injEq] at h
    subst h; simp
  | el :: r, l, h => by
    unfold bytesOf at h
    split at h
    · rename_i he; cases he
    · rename_i n r' he
      cases he
      split at h
      case isFalse => cases h
      rename_i hn
      simp only [Option.map_eq_some_iff] at h
      obtain ⟨l', hl', rfl⟩ := h
      obtain ⟨h1, h2⟩ := bytesOf_get hl'
      refine ⟨by simp [h1], fun i el hi => ?_⟩
      cases i with
      | zero =>
        simp only [List.getElem?_cons_zero, Option.some.injEq] at hi
        subst hi
        refine ⟨_, rfl, ?_⟩
        have : (UInt8.ofNat n.toNat).toNat = n.toNat := by simp; omega
        rw [this]; simp; omega
      | succ i => exact h2 i el (by simpa using hi)
    · cases h

theorem s_strOf {src dst el : TypeId} {x : Operand} {y : Opd} (ho : o.op = .convert src dst x) (hd : P.underlying dst = some .string) (hsrc : P.underlying src = some (.slice el)) (hel : P.underlying el = some (.int .u8)) (hx : e.res x = some y)
    (he : ERel e w.heap S μ K st locs a) (hr : HeapRel w.heap S μ K st.heap) (hs : astep st locs (.strOf y) = some (v, h', fp)) : Sound P w S μ K st.heap (execOp a.eval o) v h' := by
  simp only [astep, Option.map_eq_some_iff, Option.bind_eq_some_iff, Prod.mk.injEq] at hs
  obtain ⟨l, ⟨news, hnews, hl⟩, rfl, rfl, _⟩ := hs
  obtain ⟨hlen, hget⟩ := bytesOf_get hl
  obtain ⟨⟨B, c, vals, hy, hvl, hold, _, hB⟩⟩ := src_rel (sz := 1) (by omega) hr (he.res hx) hnews (fun i el hi => by obtain ⟨b, _, rfl⟩ := hget i el hi; rfl)
  have hval : ∀ (i : Nat) (hi : i < l.length), vals[i]? = some (.int .u8 (l[i].toNat : Int)) := fun i hi => by
    have hn : i < news.length := by omega
    obtain ⟨b, hb, hel⟩ := hget i _ (List.getElem?_eq_getElem hn)
    rw [List.getElem?_eq_getElem hi] at hb; cases hb
    obtain ⟨_, hcell⟩ := hold i _ (List.getElem?_eq_getElem hn)
    obtain ⟨u, hu, hc⟩ := hcell 0 (.int .u8 (l[i].toNat : Int)) (by rw [hel]; rfl)
    simp at hu
    rw [hu, hc.int_inv]
  refine Sound.pure hr (val := .string ⟨l.toArray⟩) ?_ (.one (.deep (.str _)))
  by_cases hne : news = []
  · subst hne
    have : l = [] := List.eq_nil_of_length_eq_zero (by simpa using hlen)
    subst this
    cases B with
    | none => simp [execOp, ho, hy, run_convert_bytes_nil w src el hsrc hel _ _ dst hd]; rfl
    | some b =>
      have := run_convert_bytes_back (P := P) w src dst el b c [] hsrc hel hd (fun j hj => by simp at hj)
      simp only [List.length_nil] at this
      simp [execOp, ho, hy, this]
  · obtain ⟨b, rfl, hcell⟩ := hB hne
    have := run_convert_bytes_back (P := P) w src dst el b c l hsrc hel hd (fun j hj => hcell j _ (hval j hj))
    rw [hlen] at this
    simp [execOp, ho, hy, this]

end Go.AI

/- What the checked translation of one operation does is what the model's operation does. -/
namespace Go.AI
open Go

variable {P : Program} {w : World} {S : Nat → Prop} {μ K : Nat → Nat}
variable {e : CEnv} {o : Oper} {op : AOp} {st : St} {locs : Tr V} {a : Act} {v : V} {h' : Heap} {fp : FP}

theorem arr1 {α : Type} {a : Array α} {x : α} (h : a.toList = [x]) : a = #[x] := by
  apply Array.ext'; simpa using h
theorem arr2 {α : Type} {a : Array α} {x y : α} (h : a.toList = [x, y]) : a = #[x, y] := by
  apply Array.ext'; simpa using h

theorem alloc_val {t : TypeId} {z : List C} {l : Option Nat} {hp : Array Go.Obj} {h : Heap} (hz : zeroOf P t = some z) :
    ∃ i zv, P.info? t = some i ∧ i.zero = some zv ∧ ∃ val, VR hp S μ K h (allocV l z) val ∧ val.cells = zv.cells := by
  obtain ⟨i, zv, hi, hzv, hzl, hzr⟩ := zeroOf_some (S := S) (μ := μ) (K := K) (h := h) hz
  refine ⟨i, zv, hi, hzv, ?_⟩
  have hrel := hzr hp
  have gen : ∃ val, VR hp S μ K h (.agg z) val ∧ val.cells = zv.cells := ⟨.agg zv.cells, .agg hrel, rfl⟩
  cases l with
  | some n => exact gen
  | none =>
    match z, hrel, gen with
    | [], _, gen => exact gen
    | c :: d :: r, _, gen => exact gen
    | [c], hrel, _ =>
      have hsz : zv.cells.size = 1 := by have := hrel.1; simp at this; omega
      have h0 : zv.cells.toList[0]? = some zv.cells[0] := by simp
      have hc := hrel.2 0 c zv.cells[0] rfl h0
      have h1 := hc.oneCell
      have e1 : (zv.cells[0]).cells = #[zv.cells[0]] := by cases hzz : zv.cells[0] <;> first | rfl | (rw [hzz] at h1; simp [Value.oneCell'] at h1)
      refine ⟨zv.cells[0], .one hc, ?_⟩
      rw [e1]
      apply Array.ext
      · simp [hsz]
      · intro k hk1 hk2
        have : k = 0 := by simp at hk1; omega
        subst this; rfl

theorem astep_sound (hc : compileOp P e o = some op) (he : ERel e w.heap S μ K st locs a) (hr : HeapRel w.heap S μ K st.heap) (hb : ∀ t k, e.boxk t = some k → st.base + k < st.heap.next)
    (hs : astep st locs op = some (v, h', fp)) : Sound P w S μ K st.heap (execOp a.eval o) v h' := by
  cases ho : o.op with
  | move x =>
    simp only [compileOp, ho, Option.map_eq_some_iff] at hc
    obtain ⟨y, hy, rfl⟩ := hc
    exact s_mov hy (by simp [execOp, ho]) he hr hs
  | assign x =>
    simp only [compileOp, ho, Option.map_eq_some_iff] at hc
    obtain ⟨y, hy, rfl⟩ := hc
    exact s_mov hy (by simp [execOp, ho]) he hr hs
  | pick c x y =>
    simp only [compileOp, ho] at hc
    split at hc
    case h_2 => cases hc
    cases hc
    exact s_pick ho (by assumption) (by assumption) (by assumption) he hr hs
  | alloc t =>
    simp only [compileOp, ho] at hc
    split at hc
    case h_2 => cases hc
    rename_i z n l hz hn _
    obtain ⟨i, zv, hi, hzv, val, hval, hcells⟩ := alloc_val (S := S) (μ := μ) (K := K) (l := l) (hp := w.heap) (h := st.heap) hz
    have hrun : (execOp a.eval o).run P w = .ok (.value (.pointer (some ⟨w.heap.size, 0, none⟩))) (w.alloc (.cells val.cells t)) := by
      rw [hcells]; simp [execOp, ho, run_alloc hi hzv]
    split at hc
    · simp only [Option.map_eq_some_iff] at hc
      obtain ⟨s, _, rfl⟩ := hc
      simp [astep] at hs
    split at hc
    · cases hc
      rename_i k hk
      exact s_boxS hrun (by simpa [ev] using hval) hr (hb _ _ hk) hs
    · cases hc
      exact s_boxD hrun (by simpa [ev] using hval) hr hs
  | box t x =>
    simp only [compileOp, ho] at hc
    split at hc
    case h_2 => cases hc
    rename_i y n hy hn
    have hrun : (execOp a.eval o).run P w = .ok (.value (.pointer (some ⟨w.heap.size, 0, none⟩))) (w.alloc (.cells (a.eval x).cells t)) := by simp [execOp, ho, run_box]
    split at hc
    · simp only [Option.map_eq_some_iff] at hc
      obtain ⟨s, _, rfl⟩ := hc
      simp [astep] at hs
    split at hc
    · cases hc
      rename_i k hk
      exact s_boxS hrun (he.res hy) hr (hb _ _ hk) hs
    · cases hc
      exact s_boxD hrun (he.res hy) hr hs
  | build t ps =>
    simp only [compileOp, ho] at hc
    split at hc
    case h_2 => cases hc
    rename_i fs z hf hz
    split at hc
    case h_2 => cases hc
    rename_i places hpl
    simp only [Option.map_eq_some_iff] at hc
    obtain ⟨l, hl, rfl⟩ := hc
    exact s_build ho hf hz hpl hl he hr hs
  | buildSlice t len ps =>
    simp only [compileOp, ho] at hc
    split at hc
    case h_2 => cases hc
    rename_i el hel
    split at hc
    case h_2 => cases hc
    rename_i z n l hz hn hl
    split at hc
    case isFalse => cases hc
    rename_i hcond
    obtain ⟨i, hi, hin⟩ := sizeP_some hn
    split at hc
    · cases hc
      exact s_litD ho (elemOf_some hel) hi hz hin hcond.2 hcond.1 hl he hr hs
    · cases hc
      exact s_lit ho (elemOf_some hel) hi hz hin hcond.2 hcond.1 hl he hr hs
  | load t x =>
    simp only [compileOp, ho] at hc
    split at hc
    case h_2 => cases hc
    cases hc
    exact s_load ho (by assumption) (by assumption) he hr hs
  | store t p x =>
    simp only [compileOp, ho] at hc
    split at hc
    case h_2 => cases hc
    cases hc
    exact s_store ho (by assumption) (by assumption) (by assumption) he hr hs
  | nilCheck x =>
    simp only [compileOp, ho, Option.map_eq_some_iff] at hc
    obtain ⟨y, hy, rfl⟩ := hc
    exact s_nilCheck ho hy he hr hs
  | binOp bo t x y t' =>
    simp only [compileOp, ho] at hc
    split at hc
    case h_2 => cases hc
    cases hc
    exact s_bin ho (by assumption) (by assumption) he hr hs
  | unOp uo t x =>
    cases uo <;> simp only [compileOp, ho, reduceCtorEq] at hc
    simp only [Option.map_eq_some_iff] at hc
    obtain ⟨y, hy, rfl⟩ := hc
    exact s_not ho hy he hr hs
  | convert src dst x =>
    simp only [compileOp, ho] at hc
    split at hc
    · rename_i k d y hd hsrc hy
      cases hc
      exact s_conv ho hd (by rw [hsrc]; rfl) hy he hr hs
    · rename_i el y hd hsrc hy
      split at hc
      case h_2 => cases hc
      rename_i hel
      cases hc
      exact s_strOf ho hd hsrc hel hy he hr hs
    · cases hc
  | makeFunc fn first caps =>
    cases fn <;> simp only [compileOp, ho, reduceCtorEq] at hc
    split at hc
    case isFalse => cases hc
    rename_i hf
    simp only [Option.map_eq_some_iff] at hc
    obtain ⟨l, hl, rfl⟩ := hc
    exact s_mkfn ho hf hl he hr hs
  | makeSlice t l c =>
    simp only [compileOp, ho] at hc
    split at hc
    case h_2 => cases hc
    rename_i el hel
    split at hc
    case h_2 => cases hc
    rename_i z i y u hz hi hy hu
    cases hc
    exact s_mkSlice ho (elemOf_some hel) hi hz hy hu he hr hs
  | slice t x lo hi mx =>
    cases mx with
    | some m => simp only [compileOp, ho, reduceCtorEq] at hc
    | none =>
      simp only [compileOp, ho] at hc
      split at hc
      · rename_i el y l u hel hy hl hu
        simp only [Option.map_eq_some_iff] at hc
        obtain ⟨i, hi', rfl⟩ := hc
        exact s_slice (str := false) ho ⟨el, i, hel, hi', rfl⟩ hy hl hu he hr hs
      · rename_i y l u hel hy hl hu
        cases hc
        exact s_slice (str := true) ho hel hy hl hu he hr hs
      · cases hc
  | fieldAddr s x f =>
    simp only [compileOp, ho] at hc
    split at hc
    case h_2 => cases hc
    rename_i fs hf
    split at hc
    case h_2 => cases hc
    rename_i fd hfd
    split at hc
    case h_2 => cases hc
    rename_i n y hn hy
    split at hc
    case isTrue => cases hc
    rename_i h0
    cases hc
    exact s_fieldAddr ho hf hfd hn h0 hy he hr hs
  | field s x f =>
    simp only [compileOp, ho] at hc
    split at hc
    case h_2 => cases hc
    rename_i fs hf
    split at hc
    case h_2 => cases hc
    rename_i fd hfd
    split at hc
    case h_2 => cases hc
    rename_i n y hn hy
    cases hc
    exact s_field ho hf hfd hn hy he hr hs
  | indexAddr t x i =>
    simp only [compileOp, ho] at hc
    split at hc
    case h_2 => cases hc
    rename_i el hel
    split at hc
    case h_2 => cases hc
    rename_i n y j hn hy hj
    cases hc
    obtain ⟨info, hi, rfl⟩ := sizeP_some hn
    exact s_indexAddr ho (elemOf_some hel) hi hy hj he hr hs
  | index t x i =>
    simp only [compileOp, ho] at hc
    split at hc
    case h_2 => cases hc
    cases hc
    exact s_index ho (by assumption) (by assumption) (by assumption) he hr hs
  | extract x i =>
    simp only [compileOp, ho, Option.map_eq_some_iff] at hc
    obtain ⟨y, hy, rfl⟩ := hc
    exact s_extract ho hy he hr hs
  | call c =>
    obtain ⟨callee, args, tys⟩ := c
    cases callee with
    | value f =>
      cases f <;> simp only [compileOp, ho] at hc
      case func f =>
        simp only [Option.map_eq_some_iff] at hc
        obtain ⟨l, hl, rfl⟩ := hc
        simp [astep] at hs
      all_goals
        split at hc
        case h_2 => cases hc
        cases hc
        simp [astep] at hs
    | invoke r m => simp only [compileOp, ho, reduceCtorEq] at hc
    | builtin b =>
      cases b <;> simp only [compileOp, ho, reduceCtorEq] at hc
      case len =>
        split at hc
        case h_2 => cases hc
        rename_i x t hargs htys
        split at hc
        · rename_i el y hel hy
          cases hc
          exact s_len (str := false) (by rw [ho, arr1 hargs, arr1 htys]) ⟨el, hel⟩ hy he hr hs
        · rename_i y hel hy
          cases hc
          exact s_len (str := true) (by rw [ho, arr1 hargs, arr1 htys]) hel hy he hr hs
        · cases hc
      case cap =>
        split at hc
        case h_2 => cases hc
        rename_i x t hargs htys
        split at hc
        case h_2 => cases hc
        rename_i el y hel hy
        cases hc
        exact s_cap (by rw [ho, arr1 hargs, arr1 htys]) hel hy he hr hs
      case panic =>
        cases hc
        simp [astep] at hs
      case append =>
        split at hc
        case h_2 => cases hc
        rename_i x y t u hargs htys
        split at hc
        case isFalse =>
          split at hc
          case h_2 => cases hc
          rename_i k' el hu hel
          split at hc
          case h_2 => cases hc
          rename_i i z x' y' hi hz hx hy
          split at hc
          case isFalse => cases hc
          rename_i hcond
          cases hc
          exact s_appendZ (by rw [ho, arr2 hargs, arr2 htys]) (elemOf_some hel) hu hi hz hcond.1 hx hy he hr hs
        rename_i htu
        subst htu
        split at hc
        case h_2 => cases hc
        rename_i el hel
        split at hc
        case h_2 => cases hc
        rename_i i z x' y' hi hz hx hy
        split at hc
        case isFalse => cases hc
        rename_i hcond
        cases hc
        exact s_append (by rw [ho, arr2 hargs, arr2 htys]) (elemOf_some hel) hi hz hcond.1 hcond.2 hx hy he hr hs
      case max =>
        split at hc
        case h_2 => cases hc
        rename_i x y hargs
        split at hc
        case h_2 => cases hc
        rename_i x' y' hx hy
        cases hc
        exact s_minmax (mx := true) (tys := tys) (by rw [ho, arr2 hargs]; rfl) hx hy he hr hs
      case min =>
        split at hc
        case h_2 => cases hc
        rename_i x y hargs
        split at hc
        case h_2 => cases hc
        rename_i x' y' hx hy
        cases hc
        exact s_minmax (mx := false) (tys := tys) (by rw [ho, arr2 hargs]; rfl) hx hy he hr hs
  | makeInterface t x =>
    simp only [compileOp, ho] at hc
    cases hc
    simp [astep] at hs
  | panic x =>
    simp only [compileOp, ho] at hc
    cases hc
    simp [astep] at hs
  | _ => simp only [compileOp, ho, reduceCtorEq] at hc

end Go.AI

/- The interpreter's run of a function, as a statement about what holds behind it; contracts; the translation of a function. -/
namespace Go.AI
open Go

def VRs (hp : Array Go.Obj) (S : Nat → Prop) (μ K : Nat → Nat) (h : Heap) (vs : List V) (xs : List Value) : Prop :=
  vs.length = xs.length ∧ ∀ (i : Nat) (v : V) (x : Value), vs[i]? = some v → xs[i]? = some x → VR hp S μ K h v x

/-- a function with a body, or one of the model's own entries -/
def Goes (P : Program) (f : FuncId) (args : Array Value) (w : World) (R : Ending → World → Prop) : Prop :=
  ((callFunc f args).run P w = .ok (.enter f args) w ∧ Calls P f args w R) ∨ ∃ val w', (callFunc f args).run P w = .ok (.value val) w' ∧ R (.returned val) w'

theorem Goes.mono {P : Program} {f : FuncId} {args : Array Value} {w : World} {R R' : Ending → World → Prop} (h : Goes P f args w R) (hr : ∀ e w', R e w' → R' e w') : Goes P f args w R' :=
  h.imp (fun ⟨h1, h2⟩ => ⟨h1, h2.mono hr⟩) (fun ⟨val, w', h1, h2⟩ => ⟨val, w', h1, hr _ _ h2⟩)

/-- a call over a heap of one's own: behind it Q -/
def HW (P : Program) (f : FuncId) (args : List V) (H : Heap) (Q : V → Heap → Prop) : Prop :=
  ∀ (w : World) (S : Nat → Prop) (μ K : Nat → Nat) (cargs : Array Value), HeapRel w.heap S μ K H → VRs w.heap S μ K H args cargs.toList →
    Goes P f cargs w fun e w' => ∃ val r H' S' μ' K', e = .returned val ∧ Q r H' ∧ VR w'.heap S' μ' K' H' r val ∧ Ext w.heap S μ K H w'.heap S' μ' K' H' ∧ HeapRel w'.heap S' μ' K' H' ∧ Same w w'

/-- the same, and some outcome is so -/
def HV (P : Program) (f : FuncId) (args : List V) (H : Heap) (Q : V → Heap → Prop) : Prop := (∃ r h, Q r h) ∧ HW P f args H Q

def mu0 : Nat → Nat := fun _ => 0

/-- a call that only reads what it gets: what it hands back -/
def PV (P : Program) (f : FuncId) (args : List V) (r : V) : Prop :=
  ∀ (w : World) (S : Nat → Prop) (cargs : Array Value), (∀ b, S b → b < w.heap.size) → VRs w.heap S mu0 mu0 Heap.empty args cargs.toList →
    Goes P f cargs w fun e w' => ∃ val S', e = .returned val ∧ VR w'.heap S' mu0 mu0 Heap.empty r val ∧ w.heap.size ≤ w'.heap.size ∧ (∀ b, b < w.heap.size → w'.heap[b]? = w.heap[b]?) ∧
      (∀ b, S b → S' b) ∧ (∀ b, S' b → S b ∨ w.heap.size ≤ b) ∧ (∀ b, S' b → b < w'.heap.size) ∧ Same w w'

theorem HW.mono {P : Program} {f : FuncId} {args : List V} {H : Heap} {Q Q' : V → Heap → Prop} (h : HW P f args H Q) (hq : ∀ r h, Q r h → Q' r h) : HW P f args H Q' :=
  fun w S μ K cargs hr ha => (h w S μ K cargs hr ha).mono fun _ _ ⟨val, r, H', S', μ', K', e, q, rest⟩ => ⟨val, r, H', S', μ', K', e, hq _ _ q, rest⟩
theorem HV.mono {P : Program} {f : FuncId} {args : List V} {H : Heap} {Q Q' : V → Heap → Prop} (h : HV P f args H Q) (hq : ∀ r h, Q r h → Q' r h) : HV P f args H Q' :=
  ⟨(let ⟨r, h', q⟩ := h.1; ⟨r, h', hq _ _ q⟩), h.2.mono hq⟩

def V.plain : V → Bool
  | .one _ | .agg _ | .lit _ => true
  | _ => false

def putDst (st : St) (d : Dst) (v : V) : St :=
  match d with
  | .var s => { st with vars := st.vars.put s v }
  | _ => st

def isBox : Option V → Bool
  | some (.box ..) => true
  | _ => false

def dstFree (st : St) : Dst → Bool
  | .var s => !(isBox (st.vars.get s))
  | _ => true

/-- may the value be put there? -/
def okDst (st : St) (op : AOp) (d : Dst) (v : V) : Bool :=
  match v with
  | .box .. => match op, d with | .boxV s .., .var s' => s == s' | _, _ => false
  | .vp .. => (match op with | .fieldAddr .. => true | .nilCheck .. => true | _ => false) && (match d with | .var _ => false | _ => true)
  | .tup vs => vs.all V.plain && dstFree st d
  | _ => dstFree st d

def guardOk (st : St) (locs : Tr V) : Option (Opd × Bool) → Option Bool
  | none => some true
  | some (x, b) =>
    match ev st locs x with
    | .one (.bool c) => some (c == b)
    | .tup [] => some false
    | _ => none

inductive AExit where
  | normal
  | exit (id : Nat)
  | ret

/-- behind an operation -/
def behind (s : AStmt) (i : Nat) (st : St) (locs : Tr V) (fps : Tr FP) (v : V) (fp : FP) (K : St → Tr V → Tr FP → Prop) : Prop :=
  okDst st s.op s.dst v = true ∧ fpOk s.un fps (fp.dst s.dst) = true ∧ K (putDst st s.dst v) (locs.put i v) (fps.put i (fp.dst s.dst))

/-- the objects that there are stay as they are -/
def KeepAll (h h' : Heap) : Prop := ∀ id, id < h.next → h'.mem.get id = h.mem.get id

/-- may a call over the heap lie beside the earlier ones? where it keeps what there is: beside those that only read what there is -/
def chkK (relax : Bool) (un : List Nat) (fps : Tr FP) (fp : FP) (h : Heap) : Bool :=
  un.all fun i => match fps.get i with
    | some g => if relax then ({ g with rd := [] } : FP).free fp && g.rd.all (fun id => decide (id < h.next)) else g.free fp
    | none => true

def behindK (s : AStmt) (i : Nat) (st : St) (locs : Tr V) (fps : Tr FP) (v : V) (fp : FP) (K : St → Tr V → Tr FP → Prop) : Prop :=
  okDst st s.op s.dst v = true ∧ K (putDst st s.dst v) (locs.put i v) (fps.put i (fp.dst s.dst))

def callH (P : Program) (f : FuncId) (args : List V) (s : AStmt) (i : Nat) (st : St) (locs : Tr V) (fps : Tr FP) (K : St → Tr V → Tr FP → Prop) : Prop :=
  args.all V.plain = true ∧ ∃ relax, chkK relax s.un fps (({ FP.no with all := true } : FP).dst s.dst) st.heap = true ∧
    HV P f args st.heap fun r h' => (relax = true → KeepAll st.heap h') ∧ behindK s i { st with heap := h' } locs fps r { FP.no with all := true } K

def killR (r : V) (ids : List Nat) (st : St) : St := { st with heap := if r.holds then st.heap.killAll ids else st.heap }

def callP (P : Program) (f : FuncId) (ds : List V) (ids : List Nat) (s : AStmt) (i : Nat) (st : St) (locs : Tr V) (fps : Tr FP) (K : St → Tr V → Tr FP → Prop) : Prop :=
  ∃ r, PV P f ds r ∧ behind s i (killR r ids st) locs fps r { FP.no with rd := ids, wr := if r.holds then ids else [] } K

def astmt (P : Program) (s : AStmt) (i : Nat) (st : St) (locs : Tr V) (fps : Tr FP) (K : St → Tr V → Tr FP → Prop) : Prop :=
  match guardOk st locs s.guard with
  | none => False
  | some false => behind s i st locs fps (.tup []) FP.no K
  | some true =>
    match s.op with
    | .call f args heap =>
      if heap then callH P f (args.map (ev st locs)) s i st locs fps K
      else
        match frzAll st.heap (args.map (ev st locs)) with
        | some (ds, ids) => callP P f ds ids s i st locs fps K
        | none => False
    | .callV x args =>
      match ev st locs x with
      | .one (.fn f caps) => callH P f (args.map (ev st locs) ++ caps.map .one) s i st locs fps K
      | _ => False
    | op =>
      match vstep st locs op with
      | some (v, st', fp) => behind s i st' locs fps v fp K
      | none => False

def arunOps (P : Program) : List AStmt → Nat → St → Tr V → Tr FP → (St → Prop) → Prop
  | [], _, st, _, _, K => K st
  | s :: r, i, st, locs, fps, K => astmt P s i st locs fps fun st' locs' fps' => arunOps P r (i + 1) st' locs' fps' K

def regK (Q : AExit → St → Prop) (st : St) : Prop := Q .normal st

def blockK (id : Nat) (Q : AExit → St → Prop) : AExit → St → Prop
  | .exit id', st => if id' = id then Q .normal st else Q (.exit id') st
  | e, st => Q e st

def thenK (next : St → Prop) (Q : AExit → St → Prop) : AExit → St → Prop
  | .normal, st => next st
  | e, st => Q e st

def roundK (I : Nat → St → Prop) (n : Nat) (Q : AExit → St → Prop) : AExit → St → Prop
  | .normal, st => ∃ m, m < n ∧ I m st
  | e, st => Q e st

def arun (P : Program) : ACode → St → (AExit → St → Prop) → Prop
  | .skip, st, Q => Q .normal st
  | .region ops, st, Q => arunOps P ops 0 st .lf .lf (regK Q)
  | .seq a b, st, Q => arun P a st (thenK (fun st' => arun P b st' Q) Q)
  | .cond x a b, st, Q =>
    match ev st .lf x with
    | .one (.bool t) => if t then arun P a st Q else arun P b st Q
    | _ => False
  | .block id c, st, Q => arun P c st (blockK id Q)
  | .loop c, st, Q => ∃ (I : Nat → St → Prop) (n : Nat), I n st ∧ ∀ n st, I n st → arun P c st (roundK I n Q)
  | .exit id, st, Q => Q (.exit id) st
  | .ret, st, Q => Q .ret st

def resOf (st : St) : List (Opd × Option (Option Nat)) → Option (List V)
  | [] => some []
  | (x, none) :: r =>
    match (ev st .lf x), resOf st r with
    | .vp .., _ => none
    | .box .., _ => none
    | v, some vs => some (v :: vs)
    | _, none => none
  | (x, some n) :: r =>
    match vstep st .lf (.load n x), resOf st r with
    | some (v, _, _), some vs => some (v :: vs)
    | _, _ => none

def resV (st : St) (l : List (Opd × Option (Option Nat))) : Option V :=
  match resOf st l with
  | some [v] => some v
  | some vs => some (.tup vs)
  | none => none

def putAll (vars : Tr V) : List Nat → List V → Tr V
  | s :: r, v :: vs => putAll (vars.put s v) r vs
  | _, _ => vars

def enterF (f : AFun) (args : List V) (h : Heap) : St := { vars := putAll .lf f.params args, heap := { h with next := h.next + f.boxes }, base := h.next }

def retK (rs : List (Opd × Option (Option Nat))) (Q : V → Heap → Prop) : AExit → St → Prop
  | .exit _, _ => False
  | _, st =>
    match resV st rs with
    | some r => Q r st.heap
    | none => False

def frun (P : Program) (f : AFun) (args : List V) (H : Heap) (Q : V → Heap → Prop) : Prop :=
  args.length = f.params.length ∧ args.all V.plain = true ∧ arun P f.body (enterF f args H) (retK f.results Q)

/-! some run there is -/
theorem behind_ex {s : AStmt} {i : Nat} {st : St} {locs : Tr V} {fps : Tr FP} {v : V} {fp : FP} {K : St → Tr V → Tr FP → Prop} (h : behind s i st locs fps v fp K) : ∃ st' locs' fps', K st' locs' fps' := ⟨_, _, _, h.2.2⟩
theorem astmt_ex {P : Program} {s : AStmt} {i : Nat} {st : St} {locs : Tr V} {fps : Tr FP} {K : St → Tr V → Tr FP → Prop} (h : astmt P s i st locs fps K) : ∃ st' locs' fps', K st' locs' fps' := by
  unfold astmt at h
  split at h
  · exact h.elim
  · exact behind_ex h
  · split at h
    · split at h
      · obtain ⟨_, _, _, ⟨r, h', _, hb⟩, _⟩ := h; exact ⟨_, _, _, hb.2⟩
      · split at h
        · obtain ⟨r, _, hb⟩ := h; exact behind_ex hb
        · exact h.elim
    · split at h
      · obtain ⟨_, _, _, ⟨r, h', _, hb⟩, _⟩ := h; exact ⟨_, _, _, hb.2⟩
      · exact h.elim
    · split at h
      · exact behind_ex h
      · exact h.elim
theorem arunOps_ex {P : Program} : ∀ {ops : List AStmt} {i : Nat} {st : St} {locs : Tr V} {fps : Tr FP} {K : St → Prop}, arunOps P ops i st locs fps K → ∃ st', K st'
  | [], i, st, locs, fps, K, h => ⟨st, h⟩
  | s :: r, i, st, locs, fps, K, h => by
    obtain ⟨st', locs', fps', h'⟩ := astmt_ex h
    exact arunOps_ex h'
theorem arun_ex {P : Program} : ∀ (c : ACode) (st : St) (Q : AExit → St → Prop), arun P c st Q → ∃ e st', Q e st'
  | .skip, st, Q, h => ⟨_, _, h⟩
  | .region ops, st, Q, h => by obtain ⟨st', h'⟩ := arunOps_ex h; exact ⟨_, _, h'⟩
  | .seq a b, st, Q, h => by
    obtain ⟨e, st', h'⟩ := arun_ex a st _ h
    cases e with
    | normal => exact arun_ex b st' Q h'
    | exit id => exact ⟨_, _, h'⟩
    | ret => exact ⟨_, _, h'⟩
  | .cond x a b, st, Q, h => by
    unfold arun at h
    split at h
    · split at h
      · exact arun_ex a st Q h
      · exact arun_ex b st Q h
    · exact h.elim
  | .block id c, st, Q, h => by
    obtain ⟨e, st', h'⟩ := arun_ex c st _ h
    cases e with
    | normal => exact ⟨_, _, h'⟩
    | exit id' =>
      simp only [blockK] at h'
      split at h'
      · exact ⟨_, _, h'⟩
      · exact ⟨_, _, h'⟩
    | ret => exact ⟨_, _, h'⟩
  | .loop c, st, Q, h => by
    obtain ⟨I, n, h0, hI⟩ := h
    have key : ∀ n st, I n st → ∃ e st', Q e st' := by
      intro n
      induction n using Nat.strongRecOn with
      | _ n ih =>
        intro st hn
        obtain ⟨e, st', h'⟩ := arun_ex c st _ (hI n st hn)
        cases e with
        | normal => obtain ⟨m, hm, h2⟩ := h'; exact ih m hm st' h2
        | exit id => exact ⟨_, _, h'⟩
        | ret => exact ⟨_, _, h'⟩
    exact key n st h0
  | .exit id, st, Q, h => ⟨_, _, h⟩
  | .ret, st, Q, h => ⟨_, _, h⟩
theorem frun_ex {P : Program} {f : AFun} {args : List V} {H : Heap} {Q : V → Heap → Prop} (h : frun P f args H Q) : ∃ r h, Q r h := by
  obtain ⟨_, _, h⟩ := h
  obtain ⟨e, st', h'⟩ := arun_ex _ _ _ h
  unfold retK at h'
  split at h'
  · exact h'.elim
  · split at h'
    · exact ⟨_, _, h'⟩
    · exact h'.elim

end Go.AI

/- The checked translation of a region, of code, of a function. -/
namespace Go.AI
open Go

def tmpOf : Operand → Option Tmp
  | .tmp t => some t
  | _ => none

def opTmps (o : Oper) : List Tmp := o.op.operands.toList.filterMap tmpOf

def regionsOf : Code → List (Array Oper)
  | .region _ ops _ => [ops]
  | .seq a b => regionsOf a ++ regionsOf b
  | .cond _ a b => regionsOf a ++ regionsOf b
  | .block _ c => regionsOf c
  | .loop c => regionsOf c
  | _ => []

def condTmps : Code → List Tmp
  | .seq a b => condTmps a ++ condTmps b
  | .cond x a b => (tmpOf x).toList ++ condTmps a ++ condTmps b
  | .block _ c => condTmps c
  | .loop c => condTmps c
  | _ => []

/-- what a translation goes by: temporaries that are variables; boxes; which calls share the heap -/
structure Cfg where
  n : Nat
  slots : List Tmp
  boxv : List Tmp
  boxk : List Tmp
  lits : List Tmp
  mode : FuncId → Tmp → Bool

def idxIn (t : Tmp) : List Tmp → Nat → Option Nat
  | [], _ => none
  | u :: r, i => if u = t then some i else idxIn t r (i + 1)

def locIn (slots : List Tmp) (ops : List Oper) (t : Tmp) : Nat → Option Nat := go ops
where go : List Oper → Nat → Option Nat
  | [], _ => none
  | o :: r, i => if o.dst = some t then (if slots.contains t then none else some i) else go r (i + 1)

def Cfg.env (c : Cfg) (ops : List Oper) : CEnv where
  slot := fun t => idxIn t c.slots 0
  loc := fun t => locIn c.slots ops t 0
  boxk := fun t => idxIn t c.boxk 0
  boxv := c.boxv.contains
  litA := c.lits.contains
  mode := c.mode

def dstOf (c : Cfg) (o : Oper) : Dst :=
  match o.dst with
  | none => .no
  | some t =>
    match idxIn t c.slots 0 with
    | some s => .var s
    | none => .loc

/-- what a statement may lie beside: the operations before it that do not come before it in every order -/
def unBefore (draw : Bool) (b : Array Nat) (j : Nat) : List Nat := if draw then (List.range j).filter fun i => !((b.getD j 0).testBit i) else []

def dstLocOk (c : Cfg) (ops : List Oper) (i : Nat) (o : Oper) : Dst → Bool
  | .loc => match o.dst with | some t => decide ((c.env ops).loc t = some i) | none => true
  | _ => true

def dstLt (c : Cfg) (o : Oper) : Bool := match o.dst with | some t => decide (t < c.n) | none => true

def compileStmt (P : Program) (c : Cfg) (ops : List Oper) (un : Nat → List Nat) (i : Nat) (o : Oper) : Option AStmt :=
  match compileOp P (c.env ops) o with
  | none => none
  | some op =>
    let d := dstOf c o
    if dstLocOk c ops i o d && dstLt c o then
      match o.guard with
      | none => some { op, dst := d, guard := none, un := un i }
      | some (j, b) =>
        match (ops[j]?).bind (·.dst) with
        | some t => ((c.env ops).res (.tmp t)).map fun x => { op, dst := d, guard := some (x, b), un := un i }
        | none => none
    else none

def compileOps (P : Program) (c : Cfg) (ops : List Oper) (un : Nat → List Nat) : Nat → List Oper → Option (List AStmt)
  | _, [] => some []
  | i, o :: r =>
    match compileStmt P c ops un i o, compileOps P c ops un (i + 1) r with
    | some s, some l => some (s :: l)
    | _, _ => none

def Opd.looks (i : Nat) (d : Dst) : Opd → Bool
  | .loc k => k == i
  | .var s => match d with | .var s' => s == s' | _ => false
  | _ => false

def AOp.opds : AOp → List Opd
  | .mov x => [x]
  | .pick c a b => [c, a, b]
  | .boxS _ _ _ x => [x]
  | .boxD _ _ x => [x]
  | .boxV _ _ _ x => [x]
  | .build _ ps => ps.map (·.2.2)
  | .lit _ _ _ ps => ps.map (·.2)
  | .litD _ _ _ _ ps => ps.map (·.2)
  | .load _ x => [x]
  | .store _ p x => [p, x]
  | .nilCheck x => [x]
  | .bin _ _ x y => [x, y]
  | .not x => [x]
  | .conv _ x => [x]
  | .strOf x => [x]
  | .mkSlice _ _ _ _ l c => [l, c]
  | .slice _ _ x lo hi => x :: (lo.toList ++ hi.toList)
  | .fieldAddr _ x => [x]
  | .field _ _ x => [x]
  | .indexAddr _ x i => [x, i]
  | .index x i => [x, i]
  | .len _ x => [x]
  | .append _ _ _ x y => [x, y]
  | .copy _ x y => [x, y]
  | .cap x => [x]
  | .appendZ _ _ _ _ x n => [x, n]
  | .bad => []
  | .minmax _ x y => [x, y]
  | .extract x _ => [x]
  | .mkfn _ l => l
  | .call _ l _ => l
  | .callV x l => x :: l

def AStmt.opds (s : AStmt) : List Opd := s.op.opds ++ (match s.guard with | some (x, _) => [x] | none => [])

/-- statement i writes nothing that statement t looks at -/
def AStmt.blind (i : Nat) (s t : AStmt) : Bool := t.opds.all fun x => !(x.looks i s.dst)

def sameVar : Dst → Dst → Bool
  | .var a, .var b => a == b
  | _, _ => false

def apartA (i : Nat) (s : AStmt) (j : Nat) (t : AStmt) : Bool := s.blind i t && t.blind j s && !(sameVar s.dst t.dst)

def AOp.isH : AOp → Bool
  | .call _ _ h => h
  | .callV .. => true
  | _ => false

/-- one that calls nothing and is always done -/
def AStmt.easy (t : AStmt) : Bool := t.guard.isNone && (match t.op with | .call .. => false | .callV .. => false | _ => true)

def bit (b : Array Nat) (j k : Nat) : Bool := (b.getD j 0).testBit k

/-- b's bits are paths of edges -/
def certOk (ops : Array Oper) (b : Array Nat) : Bool :=
  (List.range ops.size).all fun j => (List.range j).all fun k => !(bit b j k) ||
    (match ops[j]? with | some o => o.after.any fun e => Region.binds .any e && decide (e.on < j) && (e.on == k || (decide (k < e.on) && bit b e.on k)) | none => false)

/-- edges lead backwards -/
def lowOk (ops : Array Oper) : Bool := ops.toList.zipIdx.all fun (o, j) => o.after.all fun e => !(Region.binds .any e) || decide (e.on < j)

/-- what is not ordered is apart; a call over the heap comes behind all that it is not ordered against -/
def unOk (l : List AStmt) (b : Array Nat) : Bool :=
  l.zipIdx.all fun (t, j) => (List.range j).all fun i => bit b j i || (t.un.contains i && (match l[i]? with | some s => apartA i s j t && (!s.op.isH || t.easy) | none => false))

def lowUn (l : List AStmt) : Bool := l.zipIdx.all fun (t, j) => t.un.all fun i => decide (i < j)

def orderOk (ops : Array Oper) (l : List AStmt) : Bool :=
  let b := Region.before ops
  Region.noSelect ops && decide (l.length = ops.size) && certOk ops b && lowOk ops && unOk l b && lowUn l

def compileCode (P : Program) (c : Cfg) : Code → Option ACode
  | .skip => some .skip
  | .region _ ops draw =>
    match compileOps P c ops.toList (unBefore draw (Region.before ops)) 0 ops.toList with
    | some l => if draw && !(orderOk ops l) then none else some (.region l)
    | none => none
  | .seq a b =>
    match compileCode P c a, compileCode P c b with
    | some x, some y => some (.seq x y)
    | _, _ => none
  | .cond x a b =>
    match (c.env []).res x, compileCode P c a, compileCode P c b with
    | some y, some u, some v => some (.cond y u v)
    | _, _, _ => none
  | .block id b => (compileCode P c b).map (.block id)
  | .loop b => (compileCode P c b).map .loop
  | .exit id => some (.exit id)
  | .ret => some .ret
  | _ => none

def compileRes (P : Program) (c : Cfg) : List ResultVar → Option (List (Opd × Option (Option Nat)))
  | [] => some []
  | .tmp t :: r =>
    match (c.env []).res (.tmp t), compileRes P c r with
    | some x, some l => some ((x, none) :: l)
    | _, _ => none
  | .cell t ty :: r =>
    match (c.env []).res (.tmp t), loadN P ty, compileRes P c r with
    | some x, some n, some l => some ((x, some n) :: l)
    | _, _, _ => none

def compileParams (c : Cfg) : Nat → Option (List Nat)
  | 0 => some []
  | n + 1 =>
    match compileParams c n, idxIn n c.slots 0 with
    | some l, some s => some (l ++ [s])
    | _, _ => none

def compileFn (P : Program) (c : Cfg) (f : Func) : Option AFun :=
  match f.body with
  | none => none
  | some body =>
    match compileCode P c body, compileRes P c f.results.toList, compileParams c (f.params.size + f.nfree) with
    | some b, some r, some ps => if c.n = f.ntmps ∧ (f.name == "runtime.NumGoroutine") = false then some { params := ps, boxes := c.boxk.length, body := b, results := r } else none
    | _, _, _ => none

/-! ### how a translation's choices are found (nothing hangs on them but whether it goes through) -/
def slotsOf (f : Func) (body : Code) : List Tmp :=
  let rs := (regionsOf body).zipIdx
  let defs : List (Tmp × Nat) := rs.flatMap fun (ops, r) => ops.toList.filterMap fun o => o.dst.map fun t => (t, r)
  let uses : List (Tmp × Nat) := rs.flatMap fun (ops, r) => ops.toList.flatMap fun o => (opTmps o).map fun t => (t, r)
  let conds := condTmps body
  let ress : List Tmp := f.results.toList.map fun | .tmp t => t | .cell t _ => t
  (List.range f.ntmps).filter fun t =>
    t < f.params.size + f.nfree || ress.contains t || conds.contains t ||
    (let ds := defs.filter (·.1 == t)
     ds.length > 1 || uses.any fun (u, r) => u == t && ds.any fun (_, r') => r' != r)

def usesOf (body : Code) (t : Tmp) : List Oper := (regionsOf body).flatMap fun ops => ops.toList.filter fun o => (opTmps o).contains t

def escapes (body : Code) : Nat → Tmp → Bool
  | 0, _ => true
  | n + 1, t => (usesOf body t).any fun o =>
    match o.op with
    | .fieldAddr _ _ _ => (o.dst.map (escapes body n)).getD true
    | .nilCheck _ => (o.dst.map (escapes body n)).getD true
    | .load _ _ => false
    | .store _ p x => (match p with | .tmp u => u != t | _ => true) || (match x with | .tmp u => u == t | _ => false)
    | _ => true

def boxTmps (body : Code) : List Tmp := ((regionsOf body).flatMap fun ops => ops.toList.filterMap fun o => match o.op with | .box .. | .alloc .. => o.dst | _ => none).eraseDups

def litTmps (mode : FuncId → Tmp → Bool) (body : Code) : List Tmp :=
  (regionsOf body).flatMap fun ops => ops.toList.filterMap fun o =>
    match o.op, o.dst with
    | .buildSlice .., some t =>
      if (usesOf body t).all fun u =>
        match u.op with
        | .call { callee := .builtin .append, args, .. } => args.toList.head?.all fun | .tmp x => x != t | _ => true
        | .call { callee := .value (.func f), .. } => !(mode f (dstT u))
        | _ => false
      then none else some t
    | _, _ => none

def autoCfg (mode : FuncId → Tmp → Bool) (f : Func) : Cfg :=
  let body := f.body.getD .skip
  let slots := slotsOf f body
  let bs := boxTmps body
  { n := f.ntmps, slots, boxv := bs.filter fun t => slots.contains t && !(escapes body 8 t), boxk := bs.filter fun t => slots.contains t && escapes body 8 t, lits := litTmps mode body, mode }

end Go.AI

/- A frame's own memory beside the heap that is shared: what steps keep of it. -/
namespace Go.AI
open Go

/-! ### relations over other heaps and memories -/
theorem CR.of_empty {hp : Array Go.Obj} {S : Nat → Prop} {μ K μ' K' : Nat → Nat} {h h' : Heap} (h0 : ∀ id, h.mem.get id = none) {c : C} {v : Value} (hc : CR hp S μ K h c v) : CR hp S μ' K' h' c v := by
  induction hc with
  | deep hd => exact .deep hd
  | nils A => exact .nils A
  | sl id gen off len A cap o hm hg ho => rw [h0] at hm; cases hm
  | ptr id gen el off a o hm hg ho => rw [h0] at hm; cases hm
  | dp el off b o vals hS hv _ ih => exact .dp el off b o vals hS hv ih
  | nilp => exact .nilp
  | fn f caps vs hl vals hv _ ih => exact .fn f caps vs hl vals hv ih

theorem VR.of_empty {hp : Array Go.Obj} {S : Nat → Prop} {μ K μ' K' : Nat → Nat} {h h' : Heap} (h0 : ∀ id, h.mem.get id = none) {c : V} {v : Value} (hc : VR hp S μ K h c v) : VR hp S μ' K' h' c v := by
  induction hc with
  | undef v => exact .undef v
  | box g cs v => exact .box g cs v
  | vp s g o v => exact .vp s g o v
  | one hc => exact .one (hc.of_empty h0)
  | agg hc => exact .agg ⟨hc.1, fun i c v h1 h2 => (hc.2 i c v h1 h2).of_empty h0⟩
  | tup hl vals hv _ ih => exact .tup hl vals hv ih
  | lit els b s vals hS hs hv hd => exact .lit els b s vals hS hs hv (fun i el j c h1 h2 => (hd i el j c h1 h2).of_empty h0)

theorem Heap.empty_get (id : Nat) : Heap.empty.mem.get id = none := rfl

/-- the same over a memory that keeps what is in S -/
theorem CR.same {hp hp' : Array Go.Obj} {S S' : Nat → Prop} {μ K : Nat → Nat} {h : Heap} (hSS : ∀ b, S b → S' b) (hr : ∀ b k v, S b → rd hp b k = some v → rd hp' b k = some v) {c : C} {v : Value} (hc : CR hp S μ K h c v) : CR hp' S' μ K h c v := by
  induction hc with
  | deep hd => exact .deep (hd.mono hSS hr)
  | nils A => exact .nils A
  | sl id gen off len A cap o hm hg ho => exact .sl id gen off len A cap o hm hg ho
  | ptr id gen el off a o hm hg ho => exact .ptr id gen el off a o hm hg ho
  | dp el off b o vals hS hv _ ih => exact .dp el off b o vals (hSS b hS) (fun j c hj => hr _ _ _ hS (hv j c hj)) ih
  | nilp => exact .nilp
  | fn f caps vs hl vals hv _ ih => exact .fn f caps vs hl vals hv ih

theorem VR.same {hp hp' : Array Go.Obj} {S S' : Nat → Prop} {μ K : Nat → Nat} {h : Heap} (hSS : ∀ b, S b → S' b) (hr : ∀ b k v, S b → rd hp b k = some v → rd hp' b k = some v) {c : V} {v : Value} (hc : VR hp S μ K h c v) : VR hp' S' μ K h c v := by
  induction hc with
  | undef v => exact .undef v
  | box g cs v => exact .box g cs v
  | vp s g o v => exact .vp s g o v
  | one hc => exact .one (hc.same hSS hr)
  | agg hc => exact .agg ⟨hc.1, fun i c v h1 h2 => (hc.2 i c v h1 h2).same hSS hr⟩
  | tup hl vals hv _ ih => exact .tup hl vals hv ih
  | lit els b s vals hS hs hv hd => exact .lit els b s vals (hSS b hS) hs (fun i el j c h1 h2 => hr _ _ _ hS (hv i el j c h1 h2)) (fun i el j c h1 h2 => (hd i el j c h1 h2).same hSS hr)

theorem rd_of_eq {hp hp' : Array Go.Obj} {b k : Nat} {v : Value} (h : hp'[b]? = hp[b]?) (hv : rd hp b k = some v) : rd hp' b k = some v := by
  unfold rd at *; rw [h]; exact hv

/-- the memory grows, and keeps what it has -/
theorem grow {hp hp' : Array Go.Obj} {S S' : Nat → Prop} {μ K : Nat → Nat} {h : Heap} (hr : HeapRel hp S μ K h) (hsz : hp.size ≤ hp'.size) (hk : ∀ b, b < hp.size → hp'[b]? = hp[b]?)
    (hS : ∀ b, S b → S' b) (hb : ∀ b, S' b → S b ∨ hp.size ≤ b) (hbn : ∀ b, S' b → b < hp'.size) : Ext hp S μ K h hp' S' μ K h ∧ HeapRel hp' S' μ K h := by
  have e : Ext hp S μ K h hp' S' μ K h :=
    ⟨hsz, fun b hb _ => hk b hb, hS, fun id o hm => ⟨o, hm, Nat.le_refl _, fun _ hl => ⟨hl, rfl, rfl, rfl, rfl⟩⟩, Nat.le_refl _, fun id o hl => .inr ⟨o, hl, rfl⟩, fun b h => (hb b h).imp id .inl⟩
  refine ⟨e, hr.wf, fun id o hl => ?_, hr.inj, fun id o hl hS' => ?_, hbn⟩
  · obtain ⟨cs', h1, h2, h3, h4, h5⟩ := hr.obj id o hl
    refine ⟨cs', by rw [hk _ (hr.lt hl)]; exact h1, h2, h3, h4, fun i el hi => ⟨(h5 i el hi).1, fun j c hj => ?_⟩⟩
    obtain ⟨v, hv, hc⟩ := (h5 i el hi).2 j c hj
    exact ⟨v, hv, hc.ext hr e⟩
  · rcases hb _ hS' with h1 | h1
    · exact hr.sep id o hl h1
    · have := hr.lt hl; omega

/-! ### what is frozen is immutable -/
theorem CR.slLive {hp : Array Go.Obj} {S : Nat → Prop} {μ K : Nat → Nat} {h : Heap} {id gen off len : Nat} {o : Obj} {v : Value} (hr : HeapRel hp S μ K h) (hc : CR hp S μ K h (.sl id gen off len) v) (ha : h.at id gen = some o) :
    ∃ A cap, v = .slice A len cap ∧ (A = some ⟨μ id, off * o.sz, none⟩ ∨ (cap = 0 ∧ ∃ a, A = some a)) ∧ off + cap = K id ∧ len ≤ cap := by
  obtain ⟨hl, hg⟩ := Heap.at_look ha
  obtain ⟨hm, hlv⟩ := Heap.look_mem hl
  cases hc with
  | deep hd => cases hd
  | sl _ _ _ _ A cap o' hm' hg' ho =>
    rw [hm] at hm'; cases hm'
    exact ⟨A, cap, rfl, ho hg hlv⟩

theorem frz_sound {hp : Array Go.Obj} {S S' : Nat → Prop} {μ K : Nat → Nat} {h : Heap} (hr : HeapRel hp S μ K h) (hSS : ∀ b, S b → S' b) :
    ∀ (n : Nat) (c d : C) (ids : List Nat) (v : Value), CR hp S μ K h c v → frz h n c = some (d, ids) → (∀ id ∈ ids, ∀ o, h.look id = some o → S' (μ id)) → DR hp S' d v := by
  intro n
  induction n with
  | zero =>
    intro c d ids v hc hf hid
    cases c <;> simp only [frz, Option.some.injEq, Prod.mk.injEq, reduceCtorEq] at hf
    all_goals obtain ⟨rfl, rfl⟩ := hf
    all_goals first
      | (cases hc with | deep hd => exact hd.mono hSS (fun _ _ _ _ h => h))
      | (cases hc with | deep hd => cases hd | nils A => exact .dv0 A 0)
  | succ n ih =>
    intro c d ids v hc hf hid
    cases c with
    | sl id gen off len =>
      simp only [frz] at hf
      split at hf
      case h_2 => cases hf
      rename_i o ha
      split at hf
      case isFalse => cases hf
      rename_i hlen
      split at hf
      case h_2 => cases hf
      rename_i xs hxs
      cases hf
      obtain ⟨A, cap, rfl, hA, hK, hcap⟩ := hc.slLive hr ha
      obtain ⟨hl, hg⟩ := Heap.at_look ha
      obtain ⟨cs, hcs, hsz, hels, hk2, hobj⟩ := hr.obj id o hl
      have hm := mapM_some hxs
      have hlx : xs.length = len := by
        have := hm.1; simp only [List.length_take, List.length_drop] at this; omega
      by_cases hl0 : len = 0
      · have : xs = [] := List.eq_nil_of_length_eq_zero (by omega)
        subst this; subst hl0
        exact .dv0 A cap
      rcases hA with rfl | ⟨hc0, _⟩
      case inr => omega
      have key : ∀ (i : Nat) (xe : List (C × List Nat)), xs[i]? = some xe → ∃ el, o.els[off + i]? = some el ∧ xe.length = el.length ∧ ∀ (j : Nat) (p : C × List Nat), xe[j]? = some p → ∃ c, el[j]? = some c ∧ frz h n c = some p := by
        intro i xe hxe
        have hi : i < len := by rw [← hlx]; exact (List.getElem?_eq_some_iff.1 hxe).1
        have hel : ((o.els.drop off).take len)[i]? = some (o.els[off + i]'(by omega)) := by
          rw [List.getElem?_take_of_lt hi, List.getElem?_drop]; exact List.getElem?_eq_getElem _
        have h1 := hm.2 i _ xe hel hxe
        have hm1 := mapM_some h1
        refine ⟨_, List.getElem?_eq_getElem (by omega), hm1.1.symm, fun j p hp => ?_⟩
        have hj : j < (o.els[off + i]'(by omega)).length := by rw [hm1.1]; exact (List.getElem?_eq_some_iff.1 hp).1
        exact ⟨_, List.getElem?_eq_getElem hj, hm1.2 j _ p (List.getElem?_eq_getElem hj) hp⟩
      have hS' : S' (μ id) := hid id (by simp) o hl
      have getx : ∀ (i : Nat) (el : List C), (xs.map fun el => el.map (·.1))[i]? = some el → ∃ xe, xs[i]? = some xe ∧ el = xe.map (·.1) := by
        intro i el h1
        simp only [List.getElem?_map, Option.map_eq_some_iff] at h1
        obtain ⟨xe, h1, rfl⟩ := h1
        exact ⟨xe, h1, rfl⟩
      have main : ∀ (i : Nat) (el : List C) (j : Nat) (c : C), (xs.map fun el => el.map (·.1))[i]? = some el → el[j]? = some c →
          ∃ v, AI.rd hp (μ id) (off * o.sz + i * o.sz + j) = some v ∧ DR hp S' c v := by
        intro i el j c h1 h2
        obtain ⟨xe, hxe, rfl⟩ := getx i el h1
        obtain ⟨el0, he0, hlen0, hj0⟩ := key i xe hxe
        simp only [List.getElem?_map, Option.map_eq_some_iff] at h2
        obtain ⟨p, hp, rfl⟩ := h2
        obtain ⟨c0, hc0, hf0⟩ := hj0 j p hp
        obtain ⟨v, hv, hcv⟩ := (hobj _ _ he0).2 j c0 hc0
        refine ⟨v, ?_, ih c0 p.1 p.2 v hcv hf0 fun id' hid' => hid id' ?_⟩
        · simp only [AI.rd, hcs]
          rw [← hv]; congr 1; rw [Nat.add_mul]
        · refine List.mem_cons_of_mem _ (List.mem_flatMap.2 ⟨xe, List.mem_of_getElem? hxe, List.mem_flatMap.2 ⟨p, List.mem_of_getElem? hp, hid'⟩⟩)
      have := DR.dv (hp := hp) (S := S') (xs.map fun el => el.map (·.1)) (μ id) (off * o.sz) cap o.sz (fun i j => (AI.rd hp (μ id) (off * o.sz + i * o.sz + j)).getD undef) hS' (by simp; omega)
        (fun i el h1 => by
          obtain ⟨xe, hxe, rfl⟩ := getx i el h1
          obtain ⟨el0, he0, hlen0, _⟩ := key i xe hxe
          simp only [List.length_map]
          rw [hlen0]; exact (hobj _ _ he0).1)
        (fun i el j c h1 h2 => by obtain ⟨v, hv, _⟩ := main i el j c h1 h2; rw [hv]; rfl)
        (fun i el j c h1 h2 => by obtain ⟨v, hv, hd⟩ := main i el j c h1 h2; simp only [hv, Option.getD_some]; exact hd)
      simpa [hlx] using this
    | int | bool | str | dv | nils =>
      simp only [frz, Option.some.injEq, Prod.mk.injEq] at hf
      obtain ⟨rfl, rfl⟩ := hf
      first
      | (cases hc with | deep hd => exact hd.mono hSS (fun _ _ _ _ h => h))
      | (cases hc with | deep hd => cases hd | nils A => exact .dv0 A 0)
    | ptr | dp | nilp | fn | undef => simp only [frz, reduceCtorEq] at hf

theorem frzCells_sound {hp : Array Go.Obj} {S S' : Nat → Prop} {μ K : Nat → Nat} {h : Heap} (hr : HeapRel hp S μ K h) (hSS : ∀ b, S b → S' b) {cs ds : List C} {ids : List Nat} (hf : frzCells h cs = some (ds, ids))
    (hid : ∀ id ∈ ids, ∀ o, h.look id = some o → S' (μ id)) : ds.length = cs.length ∧ ∀ (i : Nat) (d : C), ds[i]? = some d → ∃ c, cs[i]? = some c ∧ ∀ v, CR hp S μ K h c v → DR hp S' d v := by
  unfold frzCells at hf
  split at hf
  case h_2 => cases hf
  rename_i xs hxs
  cases hf
  have hm := mapM_some hxs
  refine ⟨by simp [hm.1], fun i d hd => ?_⟩
  simp only [List.getElem?_map, Option.map_eq_some_iff] at hd
  obtain ⟨p, hp, rfl⟩ := hd
  have hi : i < cs.length := by rw [hm.1]; exact (List.getElem?_eq_some_iff.1 hp).1
  refine ⟨_, List.getElem?_eq_getElem hi, fun v hc => frz_sound hr hSS _ _ p.1 p.2 v hc (hm.2 i _ p (List.getElem?_eq_getElem hi) hp) fun id' hid' => hid id' ?_⟩
  exact List.mem_flatMap.2 ⟨p, List.mem_of_getElem? hp, hid'⟩

theorem frz1_sound {hp : Array Go.Obj} {S S' : Nat → Prop} {μ K μ' K' : Nat → Nat} {h h' : Heap} (hr : HeapRel hp S μ K h) (hSS : ∀ b, S b → S' b) {u d : V} {ids : List Nat} {v : Value} (hu : VR hp S μ K h u v) (hf : frz1 h u = some (d, ids))
    (hid : ∀ id ∈ ids, ∀ o, h.look id = some o → S' (μ id)) : VR hp S' μ' K' h' d v := by
  cases hu with
  | one hc =>
    simp only [frz1, Option.map_eq_some_iff] at hf
    obtain ⟨p, hp, he⟩ := hf
    cases he
    exact .one (.deep (frz_sound hr hSS _ _ p.1 p.2 v hc hp hid))
  | @agg cs vs hc =>
    simp only [frz1, Option.map_eq_some_iff] at hf
    obtain ⟨p, hp, he⟩ := hf
    cases he
    obtain ⟨hl, hx⟩ := frzCells_sound hr hSS hp hid
    refine .agg ⟨by rw [hl]; exact hc.1, fun i c v h1 h2 => ?_⟩
    obtain ⟨c0, hc0, hd⟩ := hx i c h1
    exact .deep (hd v (hc.2 i c0 v hc0 h2))
  | lit els b s vals hS hs hv hd =>
    simp only [frz1] at hf
    split at hf
    case h_2 => cases hf
    rename_i xs hxs
    cases hf
    have hm := mapM_some hxs
    have getx : ∀ (i : Nat) (el : List C), (xs.map (·.1))[i]? = some el → ∃ xe el0, xs[i]? = some xe ∧ el = xe.1 ∧ els[i]? = some el0 ∧ frzCells h el0 = some xe := by
      intro i el h1
      simp only [List.getElem?_map, Option.map_eq_some_iff] at h1
      obtain ⟨xe, h1, rfl⟩ := h1
      have hi : i < els.length := by rw [hm.1]; exact (List.getElem?_eq_some_iff.1 h1).1
      exact ⟨xe, _, h1, rfl, List.getElem?_eq_getElem hi, hm.2 i _ xe (List.getElem?_eq_getElem hi) h1⟩
    have main : ∀ (i : Nat) (el : List C) (j : Nat) (c : C), (xs.map (·.1))[i]? = some el → el[j]? = some c → AI.rd hp b (i * s + j) = some (vals i j) ∧ DR hp S' c (vals i j) := by
      intro i el j c h1 h2
      obtain ⟨xe, el0, hxe, rfl, hel0, hf0⟩ := getx i el h1
      obtain ⟨hl, hx⟩ := frzCells_sound (ds := xe.1) (ids := xe.2) hr hSS hf0 fun id' hid' => hid id' (List.mem_flatMap.2 ⟨xe, List.mem_of_getElem? hxe, hid'⟩)
      obtain ⟨c0, hc0, hd0⟩ := hx j c h2
      exact ⟨hv i el0 j c0 hel0 hc0, hd0 _ (hd i el0 j c0 hel0 hc0)⟩
    have hlen : els.length = (xs.map (·.1)).length := by simp [hm.1]
    rw [hlen]
    refine .one (.deep ?_)
    have := DR.dv (hp := hp) (S := S') (xs.map (·.1)) b 0 (xs.map (·.1)).length s vals (hSS b hS) (Nat.le_refl _)
      (fun i el h1 => by
        obtain ⟨xe, el0, hxe, rfl, hel0, hf0⟩ := getx i el h1
        obtain ⟨hl, _⟩ := frzCells_sound (ds := xe.1) (ids := xe.2) hr hSS hf0 fun id' hid' => hid id' (List.mem_flatMap.2 ⟨xe, List.mem_of_getElem? hxe, hid'⟩)
        rw [hl]; exact hs i el0 hel0)
      (fun i el j c h1 h2 => by have := (main i el j c h1 h2).1; simpa using this) (fun i el j c h1 h2 => (main i el j c h1 h2).2)
    exact this
  | undef | box | vp | tup => simp [frz1] at hf

theorem frzV_sound {hp : Array Go.Obj} {S S' : Nat → Prop} {μ K μ' K' : Nat → Nat} {h h' : Heap} (hr : HeapRel hp S μ K h) (hSS : ∀ b, S b → S' b) {u d : V} {ids : List Nat} {v : Value} (hu : VR hp S μ K h u v) (hf : frzV h u = some (d, ids))
    (hid : ∀ id ∈ ids, ∀ o, h.look id = some o → S' (μ id)) : VR hp S' μ' K' h' d v := by
  cases u with
  | tup vs =>
    simp only [frzV] at hf
    split at hf
    case h_2 => cases hf
    rename_i xs hxs
    cases hf
    have hm := mapM_some hxs
    cases hu with
    | tup hl vals hv hd =>
      refine .tup (by simp [← hm.1, hl]) vals (fun i c h1 => ?_) (fun i c h1 => ?_)
      all_goals
        simp only [List.getElem?_map, Option.map_eq_some_iff] at h1
        obtain ⟨xe, h1, rfl⟩ := h1
        have hi : i < vs.length := by rw [hm.1]; exact (List.getElem?_eq_some_iff.1 h1).1
      · exact hv i _ (List.getElem?_eq_getElem hi)
      · exact frz1_sound hr hSS (d := xe.1) (ids := xe.2) (hd i _ (List.getElem?_eq_getElem hi)) (hm.2 i _ xe (List.getElem?_eq_getElem hi) h1) fun id' hid' => hid id' (List.mem_flatMap.2 ⟨xe, List.mem_of_getElem? h1, hid'⟩)
  | undef | one | agg | lit | box | vp => exact frz1_sound hr hSS hu hf hid

theorem frzAll_sound {hp : Array Go.Obj} {S S' : Nat → Prop} {μ K μ' K' : Nat → Nat} {h h' : Heap} (hr : HeapRel hp S μ K h) (hSS : ∀ b, S b → S' b) : ∀ {us ds : List V} {ids : List Nat} {vs : List Value}, VRs hp S μ K h us vs → frzAll h us = some (ds, ids) →
    (∀ id ∈ ids, ∀ o, h.look id = some o → S' (μ id)) → VRs hp S' μ' K' h' ds vs
  | [], ds, ids, vs, hu, hf, hid => by
    simp only [frzAll, Option.some.injEq, Prod.mk.injEq] at hf
    obtain ⟨rfl, rfl⟩ := hf
    exact ⟨hu.1, fun i v x h1 => by simp at h1⟩
  | u :: us, ds, ids, vs, hu, hf, hid => by
    simp only [frzAll] at hf
    split at hf
    case h_2 => cases hf
    rename_i x a xs b hx hxs
    cases hf
    cases vs with
    | nil => have := hu.1; simp at this
    | cons v vs =>
      have ih := frzAll_sound (μ' := μ') (K' := K') (h' := h') hr hSS (us := us) (vs := vs) ⟨by have := hu.1; simpa using this, fun i u x h1 h2 => hu.2 (i + 1) u x (by simpa using h1) (by simpa using h2)⟩ hxs fun id' hid' => hid id' (by simp [hid'])
      refine ⟨by simp [ih.1], fun i u x h1 h2 => ?_⟩
      cases i with
      | zero =>
        simp at h1 h2; subst h1; subst h2
        exact frzV_sound hr hSS (hu.2 0 _ _ rfl rfl) hx fun id' hid' => hid id' (by simp [hid'])
      | succ i => exact ih.2 i u x (by simpa using h1) (by simpa using h2)

/-! ### values that hold no memory -/
theorem C.free_rel {hp hp' : Array Go.Obj} {S S' : Nat → Prop} {μ K μ' K' : Nat → Nat} {h h' : Heap} {c : C} {v : Value} (hf : c.holds = false) (hc : CR hp S μ K h c v) : CR hp' S' μ' K' h' c v := by
  cases hc with
  | deep hd => cases hd <;> first | exact .deep (.int ..) | exact .deep (.bool _) | exact .deep (.str _) | simp [C.holds] at hf
  | _ => simp [C.holds] at hf

theorem V.free1 {hp hp' : Array Go.Obj} {S S' : Nat → Prop} {μ K μ' K' : Nat → Nat} {h h' : Heap} {u : V} {v : Value} (hf : (match u with | .one c => c.holds | .agg cs => cs.any C.holds | _ => true) = false) (hu : VR hp S μ K h u v) : VR hp' S' μ' K' h' u v := by
  cases hu with
  | one hc => exact .one (C.free_rel hf hc)
  | agg hc => exact .agg ⟨hc.1, fun i c v h1 h2 => C.free_rel (by
      have := List.any_eq_false.1 hf c (List.mem_of_getElem? h1); simpa using this) (hc.2 i c v h1 h2)⟩
  | _ => simp at hf

theorem V.free_rel {hp hp' : Array Go.Obj} {S S' : Nat → Prop} {μ K μ' K' : Nat → Nat} {h h' : Heap} {u : V} {v : Value} (hf : u.holds = false) (hu : VR hp S μ K h u v) : VR hp' S' μ' K' h' u v := by
  cases u with
  | tup vs =>
    cases hu with
    | tup hl vals hv hd =>
      refine .tup hl vals hv fun i c h1 => V.free1 ?_ (hd i c h1)
      have := List.any_eq_false.1 hf c (List.mem_of_getElem? h1)
      revert this
      cases c <;> simp
  | one c => exact V.free1 (u := .one c) hf hu
  | agg cs => exact V.free1 (u := .agg cs) hf hu
  | _ => simp [V.holds] at hf

end Go.AI

/- The relation between a frame of the machine's and the interpreter's state: how one step keeps it. -/
namespace Go.AI
open Go

structure Ent where
  wd : World
  hp : Array Go.Obj
  S : Nat → Prop
  μ : Nat → Nat
  K : Nat → Nat
  h : Heap

structure Gh where
  S : Nat → Prop
  μ : Nat → Nat
  K : Nat → Nat
  β : Nat → Nat

def Good (β : Nat → Nat) (vars : Tr V) (v : V) (val : Value) : Prop :=
  match v with
  | .vp s g o => ∃ g' cs, vars.get s = some (.box g' cs) ∧ g ≤ g' ∧ (g' = g → val = .pointer (some ⟨β s, o, none⟩))
  | .box .. => False
  | .tup vs => vs.all V.plain = true
  | _ => True

structure FRel (e : CEnv) (n nb : Nat) (E : Ent) (hp : Array Go.Obj) (G : Gh) (st : St) (locs : Tr V) (a : Act) : Prop where
  hr : HeapRel hp G.S G.μ G.K st.heap
  ext : Ext E.hp E.S E.μ E.K E.h hp G.S G.μ G.K st.heap
  vals : ∀ t x, e.res (.tmp t) = some x → VR hp G.S G.μ G.K st.heap (ev st locs x) (a.eval (.tmp t)) ∧ Good G.β st.vars (ev st locs x) (a.eval (.tmp t))
  box : ∀ s g cs, st.vars.get s = some (.box g cs) → E.hp.size ≤ G.β s ∧ ¬ G.S (G.β s) ∧ (∀ id o, st.heap.look id = some o → G.μ id ≠ G.β s) ∧
    ∃ vs ty, hp[G.β s]? = some (.cells vs ty (0, 0)) ∧ CRs hp G.S G.μ G.K st.heap cs vs.toList
  inj : ∀ s g cs s' g' cs', st.vars.get s = some (.box g cs) → st.vars.get s' = some (.box g' cs') → G.β s = G.β s' → s = s'
  base : st.base + nb ≤ st.heap.next
  defs : a.defers = []
  sz : n ≤ a.tmps.size

variable {P : Program} {e : CEnv} {n nb : Nat} {E : Ent} {hp hp' : Array Go.Obj} {G : Gh} {st : St} {locs : Tr V} {a : Act}

theorem FRel.erel (F : FRel e n nb E hp G st locs a) : ERel e hp G.S G.μ G.K st locs a := fun t x h => (F.vals t x h).1

theorem FRel.step {S' : Nat → Prop} {μ' K' : Nat → Nat} {h' : Heap} (F : FRel e n nb E hp G st locs a) (ex : Ext hp G.S G.μ G.K st.heap hp' S' μ' K' h') (hr' : HeapRel hp' S' μ' K' h') :
    FRel e n nb E hp' ⟨S', μ', K', G.β⟩ { st with heap := h' } locs a where
  hr := hr'
  ext := F.ext.trans ex
  vals := fun t x hx => by
    obtain ⟨h1, h2⟩ := F.vals t x hx
    have he : ev { st with heap := h' } locs x = ev st locs x := by cases x <;> rfl
    rw [he]
    exact ⟨h1.ext F.hr ex, h2⟩
  box := fun s g cs hs => by
    obtain ⟨h1, h2, h3, vs, ty, h4, h5⟩ := F.box s g cs hs
    have hlt : G.β s < hp.size := (Array.getElem?_eq_some_iff.1 h4).1
    refine ⟨h1, fun hS => ?_, fun id o hl he => ?_, vs, ty, ?_, h5.ext F.hr ex⟩
    · rcases ex.back _ hS with h | h | ⟨id, o, ho, h⟩
      · exact h2 h
      · simp only at h; omega
      · exact h3 id o ho h
    · simp only at he
      rcases ex.own id o hl with h | ⟨o', ho', h⟩
      · omega
      · exact h3 id o' ho' (by rw [← h]; exact he)
    · rw [ex.keep _ hlt (fun id o hl he => h3 id o hl he)]; exact h4
  inj := F.inj
  base := Nat.le_trans F.base ex.next
  defs := F.defs
  sz := F.sz

/-! ### the translation's names -/
theorem idxIn_get {t : Tmp} : ∀ {l : List Tmp} {i s : Nat}, idxIn t l i = some s → i ≤ s ∧ l[s - i]? = some t
  | [], i, s, h => by simp [idxIn] at h
  | u :: r, i, s, h => by
    unfold idxIn at h
    split at h
    · cases h; rename_i e; subst e; simp
    · obtain ⟨h1, h2⟩ := idxIn_get h
      refine ⟨by omega, ?_⟩
      obtain ⟨m, rfl⟩ : ∃ m, s = i + 1 + m := ⟨s - (i + 1), by omega⟩
      have e1 : i + 1 + m - i = m + 1 := by omega
      have e2 : i + 1 + m - (i + 1) = m := by omega
      rw [e1]; rw [e2] at h2; simpa using h2

theorem slot_inj {c : Cfg} {ops : List Oper} {t t' : Tmp} {s : Nat} (h : (c.env ops).slot t = some s) (h' : (c.env ops).slot t' = some s) : t = t' := by
  have h1 := (idxIn_get h).2
  have h2 := (idxIn_get h').2
  rw [h1] at h2; exact Option.some.inj h2

theorem locIn_get {slots : List Tmp} {t : Tmp} : ∀ {ops : List Oper} {i s : Nat}, locIn.go slots t ops i = some s → i ≤ s ∧ (∃ o, ops[s - i]? = some o ∧ o.dst = some t) ∧ slots.contains t = false
  | [], i, s, h => by simp [locIn.go] at h
  | o :: r, i, s, h => by
    unfold locIn.go at h
    split at h
    · rename_i hd
      split at h
      · cases h
      · cases h; rename_i hc; exact ⟨Nat.le_refl _, ⟨o, by simp, hd⟩, by simpa using hc⟩
    · obtain ⟨h1, ⟨o', h2, h3⟩, h4⟩ := locIn_get h
      refine ⟨by omega, ⟨o', ?_, h3⟩, h4⟩
      obtain ⟨m, rfl⟩ : ∃ m, s = i + 1 + m := ⟨s - (i + 1), by omega⟩
      have e1 : i + 1 + m - i = m + 1 := by omega
      have e2 : i + 1 + m - (i + 1) = m := by omega
      rw [e1]; rw [e2] at h2; simpa using h2

theorem loc_dst {c : Cfg} {ops : List Oper} {t : Tmp} {i : Nat} (h : (c.env ops).loc t = some i) : ∃ o, ops[i]? = some o ∧ o.dst = some t := by
  have : locIn.go c.slots t ops 0 = some i := h
  obtain ⟨_, ⟨o, h1, h2⟩, _⟩ := locIn_get this
  exact ⟨o, by simpa using h1, h2⟩

/-- where a statement's result goes -/
structure DstOk (c : Cfg) (ops : List Oper) (i : Nat) (o : Oper) (d : Dst) : Prop where
  op : ops[i]? = some o
  eq : d = dstOf c o
  loc : ∀ t, o.dst = some t → d = Dst.loc → (c.env ops).loc t = some i
  lt : ∀ t, o.dst = some t → t < c.n

theorem Act.eval_put_self {a : Act} {t : Nat} {v : Value} (h : t < a.tmps.size) : (a.put (some t) v).eval (.tmp t) = v := by
  simp [Act.eval, Act.put, Array.getD_eq_getD_getElem?, h]

theorem Act.eval_put_ne {a : Act} {d : Option Tmp} {t : Nat} {v : Value} (h : d ≠ some t) : (a.put d v).eval (.tmp t) = a.eval (.tmp t) :=
  Act.eval_put fun d' hd hx => h (by cases hx; exact hd)

theorem Act.put_size (a : Act) (d : Option Tmp) (v : Value) : (a.put d v).tmps.size = a.tmps.size := by cases d <;> simp [Act.put]
theorem Act.put_defs (a : Act) (d : Option Tmp) (v : Value) : (a.put d v).defers = a.defers := by cases d <;> rfl

/-- a value goes where it is to go -/
theorem FRel.put {c : Cfg} {ops : List Oper} {i : Nat} {o : Oper} {d : Dst} {v : V} {val : Value} (F : FRel (c.env ops) c.n nb E hp G st locs a) (D : DstOk c ops i o d)
    (hv : VR hp G.S G.μ G.K st.heap v val) (hg : Good G.β st.vars v val) (hd : ∀ s, d = .var s → isBox (st.vars.get s) = false) (hvp : ∀ s, d = .var s → ∀ x g q, v ≠ .vp x g q) :
    FRel (c.env ops) c.n nb E hp G (putDst st d v) (locs.put i v) (a.put o.dst val) := by
  have hheap : (putDst st d v).heap = st.heap := by cases d <;> rfl
  have hbase : (putDst st d v).base = st.base := by cases d <;> rfl
  have hnb : ∀ g cs, v ≠ .box g cs := fun g cs he => by subst he; exact hg
  have hvars : ∀ s g cs, (putDst st d v).vars.get s = some (.box g cs) ↔ st.vars.get s = some (.box g cs) := by
    intro s g cs
    cases d with
    | var s' =>
      simp only [putDst, Tr.get_put_if]
      split
      · rename_i h; subst h
        constructor
        · intro h; exact absurd (Option.some.inj h) (hnb g cs)
        · intro h; have := hd _ rfl; rw [h] at this; simp [isBox] at this
      · rfl
    | _ => rfl
  have hgood : ∀ u x, Good G.β st.vars u x → Good G.β (putDst st d v).vars u x := by
    intro u x hu
    cases u with
    | vp s g q => obtain ⟨g', cs, h1, h2, h3⟩ := hu; exact ⟨g', cs, (hvars _ _ _).2 h1, h2, h3⟩
    | _ => exact hu
  refine ⟨by rw [hheap]; exact F.hr, by rw [hheap]; exact F.ext, fun t x hx => ?_, fun s g cs hs => ?_, fun s g cs s' g' cs' h1 h2 => F.inj s g cs s' g' cs' ((hvars _ _ _).1 h1) ((hvars _ _ _).1 h2), by rw [hheap, hbase]; exact F.base, by rw [Act.put_defs]; exact F.defs, by rw [Act.put_size]; exact F.sz⟩
  · rw [hheap]
    by_cases ht : o.dst = some t
    · have hlt := D.lt t ht
      rw [ht, Act.eval_put_self (Nat.lt_of_lt_of_le hlt F.sz)]
      have hev : ev (putDst st d v) (locs.put i v) x = v := by
        simp only [CEnv.res] at hx
        split at hx
        · rename_i j hj
          cases hx
          obtain ⟨o', h1, h2⟩ := loc_dst hj
          have hnot : (c.env ops).slot t = none := by
            have hgo : locIn.go c.slots t ops 0 = some j := hj
            have hc := (locIn_get hgo).2.2
            cases hsl : (c.env ops).slot t with
            | none => rfl
            | some s =>
              have := (idxIn_get hsl).2
              have hm : t ∈ c.slots := List.mem_of_getElem? this
              simp at hc; exact absurd hm hc
          have hdl : d = .loc := by
            rw [D.eq, dstOf, ht]; simp only
            have : idxIn t c.slots 0 = none := hnot
            rw [this]
          have := D.loc t ht hdl
          rw [hj] at this; cases this
          simp [ev]
        · rename_i hj
          simp only [Option.map_eq_some_iff] at hx
          obtain ⟨s, hs, rfl⟩ := hx
          have hdv : d = .var s := by
            rw [D.eq, dstOf, ht]; simp only
            have : idxIn t c.slots 0 = some s := hs
            rw [this]
          subst hdv
          have hv1 : varV s (some v) = v := by
            unfold varV
            split
            · rename_i g cs h; exact absurd (Option.some.inj h) (hnb _ _)
            · rename_i h; exact (Option.some.inj h).symm
            · rename_i h; cases h
          simp only [ev, putDst, Tr.get_put]
          exact hv1
      rw [hev]
      exact ⟨hv, hgood _ _ hg⟩
    · rw [Act.eval_put_ne ht]
      have hev : ev (putDst st d v) (locs.put i v) x = ev st locs x := by
        simp only [CEnv.res] at hx
        split at hx
        · rename_i j hj
          cases hx
          have : j ≠ i := fun he => by
            subst he
            obtain ⟨o', h1, h2⟩ := loc_dst hj
            rw [D.op] at h1; cases h1
            exact ht h2
          simp [ev, Tr.get_put_ne _ _ this]
        · simp only [Option.map_eq_some_iff] at hx
          obtain ⟨s, hs, rfl⟩ := hx
          cases d with
          | var s' =>
            have : s ≠ s' := fun he => by
              subst he
              have hd2 := D.eq
              unfold dstOf at hd2
              split at hd2
              · cases hd2
              · rename_i t' ht'
                split at hd2
                · rename_i s2 hs2
                  cases hd2
                  have := slot_inj (c := c) (ops := ops) hs hs2
                  subst this
                  exact ht ht'
                · cases hd2
            simp [ev, putDst, Tr.get_put_ne _ _ this]
          | _ => rfl
      rw [hev]
      exact ⟨(F.vals t x hx).1, hgood _ _ (F.vals t x hx).2⟩
  · obtain ⟨h1, h2, h3, h4⟩ := F.box s g cs ((hvars _ _ _).1 hs)
    rw [hheap]
    exact ⟨h1, h2, h3, h4⟩

end Go.AI
