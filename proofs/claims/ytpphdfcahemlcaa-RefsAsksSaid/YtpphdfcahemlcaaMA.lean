/- An abstract machine over the model's own code is beside it: values, memory, what each operation does. -/
import Derived.OrdersIn
import Derived.RangeFuncLeaves
import Derived.Laws.BytesArg
import Derived.Laws.Sem
import Derived.Laws.Entries
import Derived.Laws.Cells
import Derived.WalkSpells
import Derived.Laws.IdiomStrings
import Derived.Laws.MakeOwn
import Derived.Laws.IdiomCopy
import Derived.MapKept
import Derived.ChangeMaps4
import Derived.Maps.RangeRun
set_option linter.unusedSimpArgs false
set_option linter.unusedVariables false
set_option linter.unusedSectionVars false
set_option linter.unnecessarySimpa false
/- An abstract machine over the model's own code: values and memory without a tape, without capacities, without an order of evaluation. Definitions. -/
namespace Go.Am

structure Loc where
  blk : Nat
  grow : Option (Nat × Nat)

abbrev Ren := Nat → Option Loc

def cvAddr (ρ : Ren) (a : Addr) : Option Addr :=
  match a.spot with
  | none => (ρ a.block).map fun L => ⟨L.blk, a.off, none⟩
  | some 0 => some ⟨a.block, a.off, none⟩
  | some _ => none

def cvSlice (ρ : Ren) (a : Addr) (n c : Nat) : Option Value :=
  match a.spot with
  | none =>
    match ρ a.block with
    | none => none
    | some L =>
      match L.grow with
      | none => some (.slice (some ⟨L.blk, a.off, none⟩) n c)
      | some (S, sz) => if n ≤ (S - a.off) / sz then some (.slice (some ⟨L.blk, a.off, none⟩) n ((S - a.off) / sz)) else none
  | some 0 => some (.slice (some ⟨a.block, a.off, none⟩) n c)
  | some 1 =>
    match ρ a.block with
    | none => none
    | some L =>
      match L.grow with
      | none => none
      | some (S, sz) => if n ≠ 0 ∨ (S - a.off) / sz < c then none else some (if (S - a.off) / sz = c then .slice (some ⟨L.blk, a.off, none⟩) 0 0 else .slice (some ⟨L.blk, a.off + c * sz, none⟩) 0 ((S - a.off) / sz - c))
  | some 2 =>
    match ρ a.block with
    | none => none
    | some L => some (.slice (some ⟨L.blk, a.off, none⟩) n c)
  | some _ => none

def cvFn (ρ : Ren) : Fn → Option Fn
  | .func f => some (.func f)
  | .yield l => (ρ l).map fun L => .yield L.blk
  | _ => none

mutual
def cv (ρ : Ren) : Value → Option Value
  | .pointer (some a) => (cvAddr ρ a).map fun b => .pointer (some b)
  | .slice (some a) n c => cvSlice ρ a n c
  | .map (some r) => (ρ r).map fun L => .map (some L.blk)
  | .chan (some _) => none
  | .func fn ⟨x⟩ ⟨y⟩ =>
    match cvFn ρ fn, cvL ρ x, cvL ρ y with
    | some f, some x, some y => some (.func f ⟨x⟩ ⟨y⟩)
    | _, _, _ => none
  | .iface t v => (cv ρ v).map (.iface t)
  | .agg ⟨l⟩ => (cvL ρ l).map fun l => .agg ⟨l⟩
  | .tuple ⟨l⟩ => (cvL ρ l).map fun l => .tuple ⟨l⟩
  | .bool b => some (.bool b)
  | .int k n => some (.int k n)
  | .float k n => some (.float k n)
  | .complex k a b => some (.complex k a b)
  | .string s => some (.string s)
  | .pointer none => some (.pointer none)
  | .slice none n c => some (.slice none n c)
  | .map none => some (.map none)
  | .chan none => some (.chan none)
  | .nilFunc => some .nilFunc
  | .nilIface => some .nilIface
def cvL (ρ : Ren) : List Value → Option (List Value)
  | [] => some []
  | v :: r =>
    match cv ρ v, cvL ρ r with
    | some a, some b => some (a :: b)
    | _, _ => none
end

/- A value that leads to no memory. -/
mutual
def scal : Value → Bool
  | .pointer (some _) => false
  | .slice (some _) _ _ => false
  | .map (some _) => false
  | .chan (some _) => false
  | .func fn ⟨x⟩ ⟨y⟩ => (match fn with | .func _ => true | _ => false) && scalL x && scalL y
  | .iface _ v => scal v
  | .agg ⟨l⟩ => scalL l
  | .tuple ⟨l⟩ => scalL l
  | _ => true
def scalL : List Value → Bool
  | [] => true
  | v :: r => scal v && scalL r
end

/- Equality of values, as a program. -/
mutual
def veq : Value → Value → Bool
  | .bool a, .bool b => a == b
  | .int k a, .int l b => k == l && a == b
  | .string a, .string b => decide (a = b)
  | .pointer a, .pointer b => a == b
  | .slice a n c, .slice b m d => a == b && n == m && c == d
  | .map a, .map b => a == b
  | .func f ⟨x⟩ ⟨y⟩, .func g ⟨u⟩ ⟨v⟩ => f == g && veqL x u && veqL y v
  | .nilFunc, .nilFunc => true
  | .iface t v, .iface u w => t == u && veq v w
  | .nilIface, .nilIface => true
  | .agg ⟨x⟩, .agg ⟨y⟩ => veqL x y
  | .tuple ⟨x⟩, .tuple ⟨y⟩ => veqL x y
  | _, _ => false
def veqL : List Value → List Value → Bool
  | [], [] => true
  | a :: x, b :: y => veq a b && veqL x y
  | _, _ => false
end

/- What a piece of the model's own text comes to where it asks for nothing but the program's tables. -/
def pv {α : Type} (P : Program) : Sem α → Option α
  | .pure a => some a
  | .program k => pv P (k P)
  | _ => none

inductive AObj where
  | cells (cs : List Value) (e : TypeId) (grow : Bool)
  | map (es : List MapEntry) (clock : Nat)
  | loop (st : LoopState) (pend : Option Code) (n : Nat) (T : Nat → Value) (ps : List Tmp) (assign body : Code)
  | siter (s : ByteArray) (pos : Nat)
  | miter (m : Option Nat) (since : Nat) (seen : List Nat) (last : Nat)
  | dead

abbrev AH := List AObj
abbrev Fr := Nat → Value

def upd (T : Fr) (d : Nat) (v : Value) : Fr := fun t => if t = d then v else T t
def aput (T : Fr) (dst : Option Tmp) (v : Value) : Fr :=
  match dst with
  | some d => upd T d v
  | none => T

def aev (T : Fr) : Operand → Value
  | .tmp t => T t
  | .const v => v
  | .global g => .pointer (some ⟨g, 0, some 0⟩)
  | .func f => .func (.func f) #[] #[]

def cellV : Value → Bool
  | .agg _ => false
  | .tuple _ => false
  | _ => true

/- What lies in the memory that was there when the call began: as the abstract machine names it. -/
def tagV : Value → Option Value
  | .pointer (some a) => match a.spot with | none => some (.pointer (some { a with spot := some 0 })) | _ => none
  | .slice (some a) n c => match a.spot with | none => some (.slice (some { a with spot := some 0 }) n c) | _ => none
  | .iface t (.pointer (some a)) => match a.spot with | none => some (.iface t (.pointer (some { a with spot := some 0 }))) | _ => none
  | v => if scal v then some v else none
def tagL : List Value → Option (List Value)
  | [] => some []
  | v :: r => match tagV v, tagL r with | some a, some b => some (a :: b) | _, _ => none

def asize (P : Program) (t : TypeId) : Option Nat := (P.info? t).map (·.size)
def isAggD : TypeDesc → Bool
  | .struct _ => true
  | .array _ _ => true
  | _ => false

def aadd (a : Addr) (n : Nat) : Addr := ⟨a.block, a.off + n, a.spot⟩

section
variable (P : Program) (w0 : World)

/- One cell, m cells. -/
def acell (H : AH) (a : Addr) : Option Value :=
  match a.spot with
  | none => match H[a.block]? with
    | some (.cells cs _ _) => cs[a.off]?
    | _ => none
  | some 0 => match w0.heap[a.block]? with
    | some (.cells C _ _) => (C[a.off]?).bind tagV
    | _ => none
  | some 2 => match H[a.block]? with
    | some (.cells cs _ _) => cs[a.off]?
    | _ => none
  | _ => none
def acells (H : AH) (a : Addr) (m : Nat) : Option (List Value) :=
  match a.spot with
  | none => match H[a.block]? with
    | some (.cells cs _ _) => if a.off + m ≤ cs.length then some ((cs.drop a.off).take m) else none
    | _ => none
  | some 0 => match w0.heap[a.block]? with
    | some (.cells C _ _) => if a.off + m ≤ C.size then tagL ((C.toList.drop a.off).take m) else none
    | _ => none
  | some 2 => match H[a.block]? with
    | some (.cells cs _ _) => if a.off + m ≤ cs.length then some ((cs.drop a.off).take m) else none
    | _ => none
  | _ => none

def splice : List Value → Nat → List Value → List Value
  | cs, _, [] => cs
  | cs, i, v :: r => splice (cs.set i v) (i + 1) r

def putCells (H : AH) (a : Addr) (vs : List Value) : Option AH :=
  match vs with
  | [] => some H
  | _ =>
    match a.spot with
    | none => match H[a.block]? with
      | some (.cells cs e g) => if a.off + vs.length ≤ cs.length ∧ vs.all cellV = true then some (H.set a.block (.cells (splice cs a.off vs) e g)) else none
      | _ => none
    | some 2 => match H[a.block]? with
      | some (.cells cs e g) => if a.off + vs.length ≤ cs.length ∧ vs.all cellV = true then some (H.set a.block (.cells (splice cs a.off vs) e g)) else none
      | _ => none
    | _ => none

def aload (H : AH) (t : TypeId) (v : Value) : Option Value :=
  match v with
  | .pointer (some a) =>
    match P.underlying t with
    | none => none
    | some d =>
      if isAggD d then
        match asize P t with
        | some m => (acells w0 H a m).map fun l => .agg ⟨l⟩
        | none => none
      else acell w0 H a
  | _ => none

def astore (H : AH) (t : TypeId) (p v : Value) : Option AH :=
  match p with
  | .pointer (some a) => if asize P t = some v.cells.size then putCells H a v.cells.toList else none
  | _ => none

def onlyScal : Option Value → Option Value
  | some v => if scal v then some v else none
  | none => none
/- '=='; operators -/
def abin (op : BinOp) (t : TypeId) (xo yo : Operand) (x y : Value) : Option Value :=
  if scal x && scal y then onlyScal (pv P (do eqGuard op t xo yo x y; binOp op t x y))
  else
    match P.underlying t, op, x, y with
    | some (.pointer _), .eql, .pointer a, .pointer b => if a.isNone || b.isNone then some (.bool (a.isNone && b.isNone)) else none
    | some (.pointer _), .neq, .pointer a, .pointer b => if a.isNone || b.isNone then some (.bool (!(a.isNone && b.isNone))) else none
    | some (.slice _), .eql, .slice a _ _, .slice b _ _ => if a.isNone || b.isNone then some (.bool (a.isNone && b.isNone)) else none
    | some (.slice _), .neq, .slice a _ _, .slice b _ _ => if a.isNone || b.isNone then some (.bool (!(a.isNone && b.isNone))) else none
    | some (.map _ _), .eql, .map a, .map b => if a.isNone || b.isNone then some (.bool (a.isNone && b.isNone)) else none
    | some (.map _ _), .neq, .map a, .map b => if a.isNone || b.isNone then some (.bool (!(a.isNone && b.isNone))) else none
    | some (.interface _), .eql, .iface _ _, .nilIface => some (.bool false)
    | some (.interface _), .neq, .iface _ _, .nilIface => some (.bool true)
    | _, _, _, _ => none

def abound (x : Option Value) (y dflt : Nat) : Option Nat :=
  match x with
  | none => some dflt
  | some (.int _ i) => if 0 ≤ i ∧ i ≤ y then some i.toNat else none
  | _ => none

/- x[l:h:m] with a capacity that is known -/
def asliceExact (size : Nat) (a : Addr) (len cap : Nat) (lo hi mx : Option Value) (spot : Option Nat) : Option Value :=
  if mx.isSome && hi.isNone then none else
  match abound mx cap cap with
  | none => none
  | some m =>
    match abound hi m len with
    | none => none
    | some h =>
      match abound lo h 0 with
      | none => none
      | some l => some (.slice (some (if m = l then ⟨a.block, a.off, spot⟩ else ⟨a.block, a.off + l * size, spot⟩)) (h - l) (m - l))

def aslice (H : AH) (t : TypeId) (x : Value) (lo hi mx : Option Value) : Option Value :=
  match P.underlying t, x with
  | some .string, .string s =>
    if mx.isSome then none else
    match abound hi s.size s.size with
    | none => none
    | some h =>
      match abound lo h 0 with
      | none => none
      | some l => some (.string (s.extract l h))
  | some (.array n e), .pointer (some a) =>
    match asize P e, a.spot with
    | some size, none => if mx.isSome then none else asliceExact size a n n lo hi none (some 2)
    | some size, some 0 => if mx.isSome then none else asliceExact size a n n lo hi none (some 0)
    | _, _ => none
  | some (.slice e), .slice none 0 0 =>
    if mx.isSome || (asize P e).isNone then none else
    match abound hi 0 0 with
    | none => none
    | some h => match abound lo h 0 with
      | none => none
      | some _ => some (.slice none 0 0)
  | some (.slice e), .slice (some a) n c =>
    match asize P e with
    | none => none
    | some size =>
      match a.spot with
      | some 0 => asliceExact size a n c lo hi mx (some 0)
      | some 2 => asliceExact size a n c lo hi mx (some 2)
      | none =>
        match H[a.block]? with
        | some (.cells _ _ false) => asliceExact size a n c lo hi mx none
        | some (.cells _ e' true) =>
          if mx.isSome then (if hi.isSome then asliceExact size a n n lo hi mx (some 2) else none) else
          if asize P e' ≠ some size then none else
          match abound hi n n with
          | none => none
          | some h =>
            match abound lo h 0 with
            | none => none
            | some l =>
              if l = 0 then some (.slice (some a) h h)
              else if l < n then some (.slice (some ⟨a.block, a.off + l * size, none⟩) (h - l) (h - l))
              else some (.slice (some ⟨a.block, a.off, some 1⟩) 0 l)
        | _ => none
      | _ => none
  | _, _ => none

def aindexAddr (t : TypeId) (x ix : Value) : Option Value :=
  match ix with
  | .int _ i =>
    match P.underlying t, x with
    | some (.array n e), .pointer (some a) =>
      match asize P e with
      | some size => if 0 ≤ i ∧ i < n then some (.pointer (some (aadd a (i.toNat * size)))) else none
      | none => none
    | some (.slice e), .slice (some a) n _ =>
      match asize P e, a.spot with
      | some size, none => if 0 ≤ i ∧ i < n then some (.pointer (some (aadd a (i.toNat * size)))) else none
      | some size, some 0 => if 0 ≤ i ∧ i < n then some (.pointer (some (aadd a (i.toNat * size)))) else none
      | some size, some 2 => if 0 ≤ i ∧ i < n then some (.pointer (some ⟨a.block, a.off + i.toNat * size, none⟩)) else none
      | _, _ => none
    | _, _ => none
  | _ => none

def afieldAddr (s : TypeId) (x : Value) (f : Nat) : Option Value :=
  match x, P.underlying s with
  | .pointer (some a), some (.struct fs) =>
    match fs[f]? with
    | some fd => match asize P fd.type with
      | some (_ + 1) => some (.pointer (some (aadd a fd.offset)))
      | _ => none
    | none => none
  | _, _ => none

def numsOfCells : List Value → Option (List Int)
  | [] => some []
  | .int .u8 b :: r => (numsOfCells r).map fun bs => b :: bs
  | _ => none
def convOk : TypeDesc → Bool
  | .slice _ => false
  | .unsafePointer => false
  | _ => true
def aconvR (H : AH) (src dst : TypeId) (x : Value) : Option Value :=
  match P.underlying src, P.underlying dst, x with
  | some (.slice e), some .string, .slice none _ _ =>
    match P.underlying e with
    | some (.int .u8) => some (.string .empty)
    | _ => none
  | some (.slice e), some .string, .slice (some a) n _ =>
    match P.underlying e with
    | some (.int .u8) =>
      if n = 0 then some (.string .empty) else
      match acells w0 H a n with
      | some l => (numsOfCells l).map fun bs => .string (strOfNums bs)
      | none => none
    | _ => none
  | some _, some d, x => if scal x && convOk d then onlyScal (pv P (convert src dst x)) else none
  | _, _, _ => none

def alen (H : AH) (argTypes : Array TypeId) (args : List Value) : Option Value :=
  match argTypes[0]?, args with
  | some t, [x] =>
    match P.underlying t, x with
    | some .string, .string s => some (.int .i64 s.size)
    | some (.slice _), .slice _ n _ => some (.int .i64 n)
    | some (.array n _), _ => some (.int .i64 n)
    | some (.map _ _), .map none => some (.int .i64 0)
    | some (.map _ _), .map (some r) => match H[r]? with
      | some (.map es _) => some (.int .i64 es.length)
      | _ => none
    | _, _ => none
  | _, _ => none

def acap (H : AH) (argTypes : Array TypeId) (args : List Value) : Option Value :=
  match argTypes[0]?, args with
  | some t, [.slice none _ c] => match P.underlying t with
    | some (.slice _) => some (.int .i64 c)
    | _ => none
  | some t, [.slice (some a) _ c] =>
    match P.underlying t with
    | some (.slice _) =>
      match a.spot with
      | some 0 => some (.int .i64 c)
      | some 2 => some (.int .i64 c)
      | none => match H[a.block]? with
        | some (.cells _ _ false) => some (.int .i64 c)
        | _ => none
      | _ => none
    | _ => none
  | _, _ => none

/- the place of a key -/
def afind (kt : TypeId) (k : Value) (es : List MapEntry) (empty : Bool) : Option (Option (Nat × Value)) :=
  if scal k && es.all (fun e => scal e.key) then
    match pv P (Instr.checkKey empty 10000 kt k) with
    | some _ => pv P (Instr.findKey kt k es)
    | none => none
  else none

def azero (t : TypeId) : Option Value :=
  match P.info? t with
  | some i => match i.zero with
    | some z => if scal z then some z else none
    | none => none
  | none => none

def alookup (H : AH) (t : TypeId) (m k : Value) (ok : Bool) : Option Value :=
  match P.underlying t with
  | some (.map kt et) =>
    let es : Option (List MapEntry) := match m with
      | .map none => some []
      | .map (some r) => match H[r]? with
        | some (.map es _) => some es
        | _ => none
      | _ => none
    match es with
    | none => none
    | some es =>
      match afind P kt k es es.isEmpty with
      | some (some (_, v)) => some (if ok then .tuple #[v, .bool true] else v)
      | some none => (azero P et).map fun z => if ok then .tuple #[z, .bool false] else z
      | none => none
  | _ => none

/- the entry that the iterator handed out last -/
def aentry (H : AH) (it : Value) : Option Value :=
  match it with
  | .pointer (some ⟨r, 0, none⟩) =>
    match H[r]? with
    | some (.miter (some m) _ seen last) =>
      match H[m]?, seen.getLast? with
      | some (.map es clk), some stamp => if clk = last then (es.find? fun e => e.born == stamp).map fun e => .tuple #[e.key, e.val] else none
      | _, _ => none
    | _ => none
  | _ => none

/- OPERATIONS THAT ONLY READ -/
def aread (o : Oper) (T : Fr) (H : AH) : Option Value :=
  match o.op with
  | .move x => some (aev T x)
  | .assign x => some (aev T x)
  | .pick c a b => match aev T c with
    | .bool b' => some (if b' then aev T a else aev T b)
    | _ => none
  | .build t parts => if (azero P t).isSome then pv P (Instr.build t (parts.map fun (i, x) => (i, aev T x))) else none
  | .load t a => aload P w0 H t (aev T a)
  | .nilCheck x => match aev T x with
    | .pointer (some a) => some (.pointer (some a))
    | .func (.func f) x y => some (.func (.func f) x y)
    | .func (.yield f) x y => some (.func (.yield f) x y)
    | _ => none
  | .binOp op t x y _ => abin P op t x y (aev T x) (aev T y)
  | .unOp op _ x => if scal (aev T x) then onlyScal (pv P (Op.unary op (aev T x))) else none
  | .convert src dst x => aconvR P w0 H src dst (aev T x)
  | .makeInterface t x => match P.underlying t with
    | some (.interface _) => none
    | some _ => some (.iface t (aev T x))
    | none => none
  | .makeFunc (.func f) first cap => some (.func (.func f) (first.map (aev T)) (cap.map (aev T)))
  | .slice t x lo hi mx => aslice P H t (aev T x) (lo.map (aev T)) (hi.map (aev T)) (mx.map (aev T))
  | .fieldAddr s x f => afieldAddr P s (aev T x) f
  | .field t x f => pv P (Instr.field t (aev T x) f)
  | .indexAddr t x ix => aindexAddr P t (aev T x) (aev T ix)
  | .index t x ix => pv P (Instr.index t (aev T x) (aev T ix))
  | .lookup t x k ok => alookup P H t (aev T x) (aev T k) ok
  | .extract t i => pv P (Instr.extract (aev T t) i)
  | .entry it => aentry H (aev T it)
  | .call c => match c.callee with
    | .builtin .len => alen P H c.argTypes (c.args.map (aev T)).toList
    | .builtin .cap => acap P H c.argTypes (c.args.map (aev T)).toList
    | .builtin .min => if (c.args.map (aev T)).toList.all scal then onlyScal (pv P (Builtin.min_ c.argTypes o.type (c.args.map (aev T)))) else none
    | .builtin .max => if (c.args.map (aev T)).toList.all scal then onlyScal (pv P (Builtin.max_ c.argTypes o.type (c.args.map (aev T)))) else none
    | _ => none
  | _ => none

/- OPERATIONS THAT MAKE ONE NEW OBJECT AND READ NO MEMORY: the object, and the value by the object's number -/
def aalloc (o : Oper) (T : Fr) : Option (AObj × (Nat → Value)) :=
  match o.op with
  | .alloc e => (azero P e).map fun z => (.cells z.cells.toList e false, fun i => .pointer (some ⟨i, 0, none⟩))
  | .box e x => some (.cells (aev T x).cells.toList e false, fun i => .pointer (some ⟨i, 0, none⟩))
  | .buildSlice t len parts =>
    match P.underlying t with
    | some (.slice e) =>
      match asize P e with
      | some size =>
        if len * size > 2 ^ 24 then none else
        match (if len * size = 0 then some #[] else (azero P e).map (·.cells)) with
        | some zero =>
          match Instr.fill (fun i => some (i * size, size)) ((Array.range (len * size)).map (zero[· % zero.size]!)) (parts.map fun (i, x) => (i, aev T x)).toList with
          | some cells => some (.cells cells.toList e false, fun i => .slice (some ⟨i, 0, none⟩) len len)
          | none => none
        | none => none
      | none => none
    | _ => none
  | .makeSlice t l c =>
    match P.underlying t, aev T l, aev T c with
    | some (.slice e), .int _ l, .int _ c =>
      match P.info? e with
      | some i =>
        if 0 ≤ l ∧ l ≤ c ∧ c < 2 ^ 63 ∧ i.bytes * c ≤ 2 ^ 47 then
          match (if c.toNat * i.size = 0 then some #[] else (azero P e).map (·.cells)) with
          | some zero => some (.cells ((List.range (c.toNat * i.size)).map fun j => zero[j % zero.size]!) e false, fun i => .slice (some ⟨i, 0, none⟩) l.toNat c.toNat)
          | none => none
        else none
      | none => none
    | _, _, _ => none
  | .makeMap t r =>
    match r with
    | none => some (.map [] 0, fun i => .map (some i))
    | some x => match P.underlying t, aev T x with
      | some (.map _ _), .int _ _ => some (.map [] 0, fun i => .map (some i))
      | _, _ => none
  | .convert src dst x =>
    match P.underlying src, P.underlying dst, aev T x with
    | some .string, some (.slice e), .string s =>
      match P.underlying e, asize P e with
      | some (.int .u8), some 1 => some (.cells (s.data.toList.map fun b => .int .u8 b.toNat) e true, fun i => .slice (some ⟨i, 0, none⟩) s.size s.size)
      | _, _ => none
    | _, _, _ => none
  | .range t x =>
    match P.underlying t, aev T x with
    | some .string, .string s => some (.siter s 0, fun i => .pointer (some ⟨i, 0, none⟩))
    | _, _ => none
  | _ => none

/- append's second argument: its cells -/
def asrc (H : AH) (size : Nat) (x : Value) : Option (Nat × List Value) :=
  match x with
  | .slice none n _ => if n = 0 then some (0, []) else none
  | .slice (some a) n _ => if n = 0 then some (0, []) else (acells w0 H a (n * size)).map fun l => (n, l)
  | .string s => some (s.size, s.data.toList.map fun b => .int .u8 b.toNat)
  | _ => none

def agrow (H : AH) (e : TypeId) (bytes m : Nat) (cs : List Value) : Option (Value × AH) :=
  if m * bytes ≤ 2 ^ 47 then some (.slice (some ⟨H.length, 0, none⟩) m m, H ++ [.cells cs e true]) else none

def aappendTo (H : AH) (e : TypeId) (size bytes : Nat) (s : Value) (m : Nat) (xs : List Value) : Option (Value × AH) :=
  match s with
  | .slice none 0 0 => if m = 0 then some (.slice none 0 0, H) else agrow H e bytes m xs
  | .slice (some a) n c =>
    let exact : Option (Value × AH) :=
      if n + m ≤ c then (putCells H (aadd a (n * size)) xs).map fun H' => (.slice (some a) (n + m) c, H')
      else match (if n = 0 then some [] else acells w0 H a (n * size)) with
        | some old => agrow H e bytes (n + m) (old ++ xs)
        | none => none
    match a.spot with
    | some 0 => exact
    | some 2 => exact
    | none =>
      match H[a.block]? with
      | some (.cells _ _ false) => exact
      | some (.cells cs e' true) =>
        if m = 0 then some (.slice (some a) n n, H)
        else if a.off = 0 ∧ n * size = cs.length ∧ e' = e ∧ (n + m) * bytes ≤ 2 ^ 47 ∧ xs.all cellV = true then
          some (.slice (some ⟨H.length, 0, none⟩) (n + m) (n + m), H.set a.block .dead ++ [.cells (cs ++ xs) e true])
        else none
      | _ => none
    | _ => none
  | _ => none

def aappend (H : AH) (argTypes : Array TypeId) (args : List Value) : Option (Value × AH) :=
  match argTypes[0]?, argTypes[1]?, args with
  | some t, some xt, [s, x] =>
    match P.underlying t with
    | some (.slice e) =>
      match P.info? e, azero P e with
      | some i, some z =>
        if i.size = 0 ∨ i.bytes = 0 ∨ z.cells.size ≠ i.size then none else
        match P.underlying xt with
        | some (.int _) =>
          match x with
          | .int _ l => if 0 ≤ l ∧ l < 2 ^ 63 ∧ l * i.bytes ≤ 2 ^ 47 then aappendTo w0 H e i.size i.bytes s l.toNat (Builtin.zeroCells z.cells l.toNat).toList else none
          | _ => none
        | some _ =>
          match asrc w0 H i.size x with
          | some (m, xs) => if xs.length = m * i.size then aappendTo w0 H e i.size i.bytes s m xs else none
          | none => none
        | none => none
      | _, _ => none
    | _ => none
  | _, _, _ => none

def acopy (H : AH) (argTypes : Array TypeId) (args : List Value) : Option (Value × AH) :=
  match argTypes[0]?, args with
  | some t, [.slice d n _, src] =>
    match P.underlying t with
    | some (.slice e) =>
      match asize P e with
      | some size =>
        let k : Option (Nat × List Value) := match src with
          | .slice a m _ => let k := Nat.min m n
            if k = 0 then some (0, []) else match a with
              | some a => (acells w0 H a (k * size)).map fun l => (k, l)
              | none => none
          | .string s => let k := Nat.min s.size n
            some (k, (s.data.toList.take k).map fun b => .int .u8 b.toNat)
          | _ => none
        match k, d with
        | some (k, l), some a => (putCells H a l).map fun H' => (.int .i64 k, H')
        | some (k, _), none => some (.int .i64 k, H)
        | none, _ => none
      | none => none
    | _ => none
  | _, _ => none

def aclear (H : AH) (argTypes : Array TypeId) (args : List Value) : Option (Value × AH) :=
  match argTypes[0]?, args with
  | some t, [x] =>
    match P.underlying t, x with
    | some _, .map none => some (undef, H)
    | some _, .slice none _ _ => some (undef, H)
    | some (.slice e), .slice (some a) n _ =>
      if n = 0 then some (undef, H) else
      match azero P e with
      | some z => (putCells H a (Builtin.zeroCells z.cells n).toList).map fun H' => (undef, H')
      | none => none
    | some (.map _ _), .map (some r) => match H[r]? with
      | some (.map _ c) => some (undef, H.set r (.map [] c))
      | _ => none
    | _, _ => none
  | _, _ => none

def amapUpdate (H : AH) (t : TypeId) (m k v : Value) : Option AH :=
  match P.underlying t, m with
  | some (.map kt _), .map (some r) =>
    match H[r]? with
    | some (.map es c) =>
      match afind P kt k es false with
      | some (some (i, _)) =>
        if Instr.sameBits 10000 (((es[i]?).map (·.key)).getD k) k then some (H.set r (.map (es.modify i fun e => { e with key := k, val := v }) c)) else none
      | some none => some (H.set r (.map (es ++ [{ key := k, val := v, born := c }]) (c + 1)))
      | none => none
    | _ => none
  | _, _ => none

def amapEntry (H : AH) (t : TypeId) (m k : Value) : Option (Value × AH) :=
  match P.underlying t, m with
  | some (.map kt et), .map (some r) =>
    match H[r]? with
    | some (.map es c) =>
      match afind P kt k es false with
      | some (some (i, v)) =>
        if Instr.sameBits 10000 (((es[i]?).map (·.key)).getD k) k then
          some (.tuple #[v, .int .i64 (((es[i]?).map (·.born)).getD 0)], H.set r (.map (es.modify i fun e => { e with key := k }) c))
        else none
      | some none => (azero P et).map fun z => (.tuple #[z, .int .i64 c], H.set r (.map (es ++ [{ key := k, val := z, born := c }]) (c + 1)))
      | none => none
    | _ => none
  | _, _ => none

def aentryStore (H : AH) (m stamp v : Value) : Option AH :=
  match m, stamp with
  | .map (some r), .int _ b =>
    match H[r]? with
    | some (.map es c) =>
      match es.findIdx? (fun e => (e.born : Int) == b) with
      | some i => some (H.set r (.map (es.modify i fun e => { e with val := v }) c))
      | none => none
    | _ => none
  | _, _ => none

def adelete (H : AH) (argTypes : Array TypeId) (args : List Value) : Option (Value × AH) :=
  match argTypes[0]?, args with
  | some t, [.map (some r), k] =>
    match P.underlying t with
    | some (.map kt _) =>
      match H[r]? with
      | some (.map es c) =>
        match afind P kt k es es.isEmpty with
        | some (some (i, _)) => some (undef, H.set r (.map (es.eraseIdx i) c))
        | some none => some (undef, H)
        | none => none
      | _ => none
    | _ => none
  | _, _ => none

def anext (H : AH) (it : Value) (isString : Bool) : Option (Value × AH) :=
  match it with
  | .pointer (some ⟨r, 0, none⟩) =>
    match H[r]?, isString with
    | some (.siter s pos), true =>
      if pos < s.size then
        some (.tuple #[.bool true, .int .i64 pos, .int .i32 (Utf8.decode s pos).1], H.set r (.siter s (pos + (Utf8.decode s pos).2)))
      else some (.tuple #[.bool false], H)
    | some (.miter none _ _ _), false => some (.tuple #[.bool false], H)
    | some (.miter (some m) since seen last), false =>
      match H[m]? with
      | some (.map es clk) =>
        if es.all (fun e => decide (e.born < since)) && decide (since ≤ last) then
          match es.filter (fun e => !seen.contains e.born) with
          | [] => some (.tuple #[.bool false], H)
          | [e] => some (.tuple #[.bool true, e.key, e.val], H.set r (.miter (some m) since (seen ++ [e.born]) clk))
          | _ => none
        else none
      | _ => none
    | _, _ => none
  | _ => none

/- a range over a map begins: the order of its entries is not told here: 'next' answers where one entry at most is left -/
def arange (H : AH) (t : TypeId) (x : Value) : Option (Value × AH) :=
  match P.underlying t, x with
  | some (.map _ _), .map none => some (.pointer (some ⟨H.length, 0, none⟩), H ++ [.miter none 0 [] 0])
  | some (.map _ _), .map (some m) => match H[m]? with
    | some (.map _ c) => some (.pointer (some ⟨H.length, 0, none⟩), H ++ [.miter (some m) c [] c])
    | _ => none
  | _, _ => none

/- OPERATIONS THAT WRITE -/
def awrite (o : Oper) (T : Fr) (H : AH) : Option (Value × AH) :=
  match o.op with
  | .store t a x => (astore P H t (aev T a) (aev T x)).map fun H' => (undef, H')
  | .mapUpdate t m k x => (amapUpdate P H t (aev T m) (aev T k) (aev T x)).map fun H' => (undef, H')
  | .insert t m k x => (amapUpdate P H t (aev T m) (aev T k) (aev T x)).map fun H' => (undef, H')
  | .mapEntry t m k => amapEntry P H t (aev T m) (aev T k)
  | .entryStore _ m s x => (aentryStore H (aev T m) (aev T s) (aev T x)).map fun H' => (undef, H')
  | .next it isString => anext H (aev T it) isString
  | .range t x => arange P H t (aev T x)
  | .call c => match c.callee with
    | .builtin .append => aappend P w0 H c.argTypes (c.args.map (aev T)).toList
    | .builtin .copy => acopy P w0 H c.argTypes (c.args.map (aev T)).toList
    | .builtin .clear => aclear P H c.argTypes (c.args.map (aev T)).toList
    | .builtin .delete => adelete P H c.argTypes (c.args.map (aev T)).toList
    | _ => none
  | _ => none

inductive Cls where
  | read | alloc | write | call
def clsOf (o : Oper) : Cls :=
  match o.op with
  | .alloc _ | .box _ _ | .buildSlice _ _ _ | .makeSlice _ _ _ | .makeMap _ _ => .alloc
  | .range t _ => match P.underlying t with
    | some (.map _ _) => .write
    | _ => .alloc
  | .convert _ dst _ => match P.underlying dst with
    | some (.slice _) => .alloc
    | _ => .read
  | .store _ _ _ | .mapUpdate _ _ _ _ | .insert _ _ _ _ | .mapEntry _ _ _ | .entryStore _ _ _ _ | .next _ _ => .write
  | .call c => match c.callee with
    | .builtin .len | .builtin .cap | .builtin .min | .builtin .max => .read
    | .builtin _ => .write
    | _ => .call
  | _ => .read
/- Does what is read hang on memory? -/
def heapy (o : Oper) : Bool :=
  match o.op with
  | .load _ _ | .lookup _ _ _ _ | .slice _ _ _ _ _ | .convert _ _ _ | .call _ | .entry _ => true
  | _ => false
end

inductive Tgt where
  | fn (f : Nat)
  | yield (l : Nat)

abbrev CallA := Tgt → List Value → AH → Option (Value × AH)

def callee (v : Value) (args : List Value) : Option (Tgt × List Value) :=
  match v with
  | .func (.func f) ⟨x⟩ ⟨y⟩ => some (.fn f, x ++ args ++ y)
  | .func (.yield l) ⟨[]⟩ ⟨[]⟩ => some (.yield l, args)
  | _ => none

def acall (call : CallA) (o : Oper) (T : Fr) (H : AH) : Option (Value × AH) :=
  match o.op with
  | .call { callee := .value f, args := args, .. } =>
    match callee (aev T f) (args.map (aev T)).toList with
    | some (tg, vs) => call tg vs H
    | none => none
  | _ => none

def awanted (ops : Array Oper) (o : Oper) (T : Fr) : Bool :=
  match o.guard with
  | none => true
  | some (j, want) => match (ops[j]?).bind (·.dst) with
    | some d => match T d with
      | .bool b => b == want
      | _ => false
    | none => false

section
variable (P : Program) (w0 : World)

/- one operation, whatever it is -/
def astep (call : CallA) (o : Oper) (T : Fr) (H : AH) : Option (Value × AH) :=
  match clsOf P o with
  | .read => (aread P w0 o T H).map fun v => (v, H)
  | .alloc => (aalloc P o T).map fun p => (p.2 H.length, H ++ [p.1])
  | .write => awrite P w0 o T H
  | .call => acall call o T H

def evOps (call : CallA) (ops : Array Oper) : List Oper → Fr → AH → Option (Fr × AH)
  | [], T, H => some (T, H)
  | o :: r, T, H =>
    if awanted ops o T then
      match astep P w0 call o T H with
      | some (v, H') => evOps call ops r (aput T o.dst v) H'
      | none => none
    else evOps call ops r (aput T o.dst undef) H

def beforeB (bef : Array Nat) (i j : Nat) : Bool := (bef.getD i 0).testBit j

def oeq : Option AObj → Option AObj → Bool
  | some (.cells c e g), some (.cells d f h) => veqL c d && e == f && g == h
  | some (.siter s p), some (.siter t q) => decide (s = t) && p == q
  | some (.map [] c), some (.map [] d) => c == d
  | _, _ => false
def chk : Option Value → Value → Bool
  | some v, u => veq v u
  | none, _ => false

def padTo (H : AH) (m : Nat) : AH := H ++ List.replicate (m - H.length) .dead
/- A region whose order is open: walked in the order of the text; what is read must not hang on what may come up on the other side of a write. -/
def evD (call : CallA) (ops : Array Oper) (bef : Array Nat) : List Oper → Nat → Fr → AH → List (Nat × AH) → List (Nat × (AH → Bool)) → Option (Fr × AH)
  | [], _, T, H, _, _ => some (T, H)
  | o :: r, i, T, H, hist, reads =>
    if awanted ops o T then
      match clsOf P o with
      | .read =>
        match aread P w0 o T H with
        | none => none
        | some v =>
          if heapy o then
            if hist.all fun p => beforeB bef i p.1 || chk (aread P w0 o T p.2) v then
              evD call ops bef r (i + 1) (aput T o.dst v) H hist ((i, fun H' => chk (aread P w0 o T H') v) :: reads)
            else none
          else evD call ops bef r (i + 1) (aput T o.dst v) H hist reads
      | .alloc =>
        match aalloc P o T with
        | none => none
        | some p => evD call ops bef r (i + 1) (aput T o.dst (p.2 H.length)) (H ++ [p.1]) (hist.map fun q => (q.1, padTo q.2 H.length ++ [p.1])) ((i, fun H' => oeq H'[H.length]? (some p.1)) :: reads)
      | .write =>
        match awrite P w0 o T H with
        | none => none
        | some (v, H') =>
          if reads.all fun p => beforeB bef i p.1 || p.2 H' then evD call ops bef r (i + 1) (aput T o.dst v) H' ((i, H) :: hist) reads else none
      | .call =>
        match acall call o T H with
        | none => none
        | some (v, H') =>
          if reads.all fun p => beforeB bef i p.1 || p.2 H' then evD call ops bef r (i + 1) (aput T o.dst v) H' ((i, H) :: hist) reads else none
    else evD call ops bef r (i + 1) (aput T o.dst undef) H hist reads

/- rounds of a loop -/
def aiter : Nat → (Fr → AH → Option (Exit × Fr × AH)) → Fr → AH → Option (Exit × Fr × AH)
  | 0, _, _, _ => none
  | k + 1, body, T, H =>
    match body T H with
    | some (.normal, T', H') => aiter k body T' H'
    | r => r

def jumpOf : Exit → Option (Option Code)
  | .normal => some none
  | .ret => some (some .ret)
  | .exit id => some (some (.exit id))
  | _ => none

def enters (f : Nat) : Bool :=
  match P.funcs[f]? with
  | some fn => fn.body.isSome && !(fn.name == "runtime.NumGoroutine")
  | none => false
def evCode (call : CallA) (k n : Nat) : Code → Fr → AH → Option (Exit × Fr × AH)
  | .skip, T, H => some (.normal, T, H)
  | .label _, T, H => some (.normal, T, H)
  | .region _ ops draw, T, H =>
    if draw then (evD P w0 call ops (Region.before ops) ops.toList 0 T H [] []).map fun p => (.normal, p.1, p.2)
    else (evOps P w0 call ops ops.toList T H).map fun p => (.normal, p.1, p.2)
  | .seq a b, T, H =>
    match evCode call k n a T H with
    | some (.normal, T', H') => evCode call k n b T' H'
    | r => r
  | .cond c a b, T, H =>
    match aev T c with
    | .bool t => if t then evCode call k n a T H else evCode call k n b T H
    | _ => none
  | .block id c, T, H =>
    match evCode call k n c T H with
    | some (.exit i, T', H') => if i = id then some (.normal, T', H') else some (.exit i, T', H')
    | r => r
  | .loop c, T, H => aiter k (evCode call k n c) T H
  | .rangeFunc g ps assign body, T, H =>
    match callee (aev T g) [.func (.yield H.length) #[] #[]] with
    | some (.fn f, vs) =>
      if !enters P f then none else
      match call (.fn f) vs (H ++ [.loop .ready none n T ps.toList assign body]) with
      | none => none
      | some (_, H') =>
        match H'[H.length]? with
        | some (.loop st pend n' T' ps' as' bd') =>
          if st == .busy then none else
          match pend with
          | none => some (.normal, T, H'.set H.length (.loop .exhausted pend n' T' ps' as' bd'))
          | some .ret => some (.ret, T, H'.set H.length (.loop .exhausted pend n' T' ps' as' bd'))
          | some (.exit id) => some (.exit id, T, H'.set H.length (.loop .exhausted pend n' T' ps' as' bd'))
          | _ => none
        | _ => none
    | _ => none
  | .exit id, T, H => some (.exit id, T, H)
  | .ret, T, H => some (.ret, T, H)
  | .scope _, _, _ => none
  | .goto _, _, _ => none
  | .refuse _, _, _ => none

/- The static side: asked once a function. -/
def constOk : Operand → Bool
  | .const v => scal v
  | _ => true
def tmpOk (n : Nat) : Operand → Bool
  | .tmp t => decide (t < n)
  | _ => true
def operOk (n : Nat) (o : Oper) : Bool :=
  o.op.operands.toList.all (fun x => constOk x && tmpOk n x) && (match o.dst with | some d => decide (d < n) | none => true)
def guardOk (ops : Array Oper) (n : Nat) (o : Oper) : Bool :=
  match o.guard with
  | none => true
  | some (j, _) => match (ops[j]?).bind (·.dst) with
    | some d => decide (d < n)
    | none => false
def isW (o : Oper) : Bool :=
  match clsOf P o with
  | .write => true
  | .call => true
  | _ => false
def opAt (ops : Array Oper) (i : Nat) : Oper := ops.getD i default
def gtmp (ops : Array Oper) (o : Oper) : Option Tmp :=
  match o.guard with
  | some (j, _) => (ops[j]?).bind (·.dst)
  | none => none
def looks (ops : Array Oper) (o : Oper) (t : Tmp) : Bool := o.op.operands.toList.any (fun x => match x with | .tmp u => u == t | _ => false) || gtmp ops o == some t
def clash (ops : Array Oper) (o p : Oper) : Bool :=
  (match o.dst with | some t => looks ops p t || p.dst == some t | none => false) || (match p.dst with | some t => looks ops o t | none => false)
def pairOk (ops : Array Oper) (b : Array Nat) : Bool :=
  (List.range ops.size).all fun j => (List.range j).all fun i => beforeB b j i || !(clash ops (opAt ops i) (opAt ops j) || (isW P (opAt ops i) && isW P (opAt ops j)))
def edgesOk (ops : Array Oper) : Bool :=
  (List.range ops.size).all fun j => (opAt ops j).after.toList.all fun e => !Region.binds .any e || decide (e.on < j)
def closedOk (ops : Array Oper) (b : Array Nat) : Bool :=
  (List.range ops.size).all fun j => (List.range ops.size).all fun i => !beforeB b j i || (opAt ops j).after.toList.any (fun e => Region.binds .any e && decide (e.on < j) && (e.on == i || beforeB b e.on i))
def drawOk (ops : Array Oper) : Bool :=
  P.follows .mixedOrders && edgesOk ops && closedOk ops (Region.before ops) && pairOk P ops (Region.before ops)
def codeOk (fl : Bool) (n : Nat) : Code → Bool
  | .region _ ops draw => ops.toList.all (fun o => operOk n o && guardOk ops n o) && (!draw || drawOk P ops)
  | .seq a b => codeOk fl n a && codeOk fl n b
  | .cond c a b => constOk c && tmpOk n c && codeOk fl n a && codeOk fl n b
  | .block _ c => codeOk fl n c
  | .loop c => codeOk fl n c
  | .rangeFunc g ps a b => !fl && constOk g && tmpOk n g && ps.toList.all (fun t => decide (t < n)) && codeOk true n a && codeOk true n b
  | .scope _ => false
  | .goto _ => false
  | .refuse _ => false
  | _ => true
def named (fn : Func) : Bool := !(fn.name == "runtime.NumGoroutine")
def funcOk (fn : Func) : Bool :=
  (match fn.body with | some c => codeOk P false fn.ntmps c | none => false) && named fn &&
  fn.results.toList.all (fun r => match r with | .tmp t => decide (t < fn.ntmps) | .cell a _ => decide (a < fn.ntmps))

def aresult (T : Fr) (H : AH) : ResultVar → Option Value
  | .tmp t => some (T t)
  | .cell a t => aload P w0 H t (T a)
def aresultsL (T : Fr) (H : AH) : List ResultVar → Option (List Value)
  | [] => some []
  | r :: rs => match aresult P w0 T H r, aresultsL T H rs with
    | some a, some b => some (a :: b)
    | _, _ => none
def aresults (fn : Func) (T : Fr) (H : AH) : Option Value :=
  match aresultsL P w0 T H fn.results.toList with
  | some [v] => some v
  | some l => some (.tuple ⟨l⟩)
  | none => none

def frame0 (args : List Value) : Fr := fun t => args.getD t undef
def putAllA (T : Fr) : List (Tmp × Value) → Fr
  | [] => T
  | (t, v) :: r => putAllA (upd T t v) r

abbrev Over := Nat → Option (CallA → List Value → AH → Option (Value × AH))

def evCall (O : Over) : Nat → CallA
  | 0, _, _, _ => none
  | k + 1, .fn f, args, H =>
    match O f with
    | some g => g (evCall O k) args H
    | none =>
      match P.funcs[f]? with
      | none => none
      | some fn =>
        match fn.body with
        | none => none
        | some c =>
          if funcOk P fn && decide (args.length ≤ fn.ntmps) then
            match evCode P w0 (evCall O k) k fn.ntmps c (frame0 args) H with
            | some (.normal, T, H') => (aresults P w0 fn T H').map fun v => (v, H')
            | some (.ret, T, H') => (aresults P w0 fn T H').map fun v => (v, H')
            | _ => none
          else none
  | k + 1, .yield l, args, H =>
    match H[l]? with
    | some (.loop .ready _ n T ps assign body) =>
      if args.length = ps.length then
        match evCode P w0 (evCall O k) k n assign (putAllA T (ps.zip args)) H with
        | some (.normal, T1, H1) =>
          match H1[l]? with
          | some (.loop .ready p1 n1 T0 ps1 a1 b1) =>
            match evCode P w0 (evCall O k) k n body T1 (H1.set l (.loop .busy p1 n1 T0 ps1 a1 b1)) with
            | some (e, _, H2) =>
              match jumpOf e, H2[l]? with
              | some j, some (.loop _ _ n2 T2 ps2 a2 b2) => some (.bool j.isNone, H2.set l (.loop (if j.isNone then .ready else .done) j n2 T2 ps2 a2 b2))
              | _, _ => none
            | none => none
          | _ => none
        | _ => none
      else none
    | _ => none
end
end Go.Am
/- The abstract machine: plain facts on values. -/
namespace Go.Am

def Le (ρ ρ' : Ren) : Prop := ∀ i L, ρ i = some L → ρ' i = some L
theorem Le.refl (ρ : Ren) : Le ρ ρ := fun _ _ h => h
theorem Le.trans {ρ ρ' ρ'' : Ren} (h : Le ρ ρ') (k : Le ρ' ρ'') : Le ρ ρ'' := fun i L e => k i L (h i L e)

theorem cvAddr_mono {ρ ρ' : Ren} (h : Le ρ ρ') {a b : Addr} (hc : cvAddr ρ a = some b) : cvAddr ρ' a = some b := by
  unfold cvAddr at *
  split at hc
  · cases hr : ρ a.block with
    | none => rw [hr] at hc; cases hc
    | some L => rw [hr] at hc; rw [h _ _ hr]; exact hc
  · exact hc
  · cases hc
theorem cvSlice_mono {ρ ρ' : Ren} (h : Le ρ ρ') {a : Addr} {n c : Nat} {v : Value} (hc : cvSlice ρ a n c = some v) : cvSlice ρ' a n c = some v := by
  unfold cvSlice at *
  split at hc
  · cases hr : ρ a.block with
    | none => rw [hr] at hc; cases hc
    | some L => rw [hr] at hc; rw [h _ _ hr]; exact hc
  · exact hc
  · cases hr : ρ a.block with
    | none => rw [hr] at hc; cases hc
    | some L => rw [hr] at hc; rw [h _ _ hr]; exact hc
  · cases hr : ρ a.block with
    | none => rw [hr] at hc; cases hc
    | some L => rw [hr] at hc; rw [h _ _ hr]; exact hc
  · cases hc
theorem cvFn_mono {ρ ρ' : Ren} (h : Le ρ ρ') {f g : Fn} (hc : cvFn ρ f = some g) : cvFn ρ' f = some g := by
  cases f <;> simp only [cvFn] at * <;> try exact hc
  rename_i l
  cases hr : ρ l with
  | none => rw [hr] at hc; cases hc
  | some L => rw [hr] at hc; rw [h _ _ hr]; exact hc

mutual
theorem cv_mono {ρ ρ' : Ren} (h : Le ρ ρ') : ∀ (v v' : Value), cv ρ v = some v' → cv ρ' v = some v'
  | .bool _, _, hc | .int _ _, _, hc | .float _ _, _, hc | .complex _ _ _, _, hc | .string _, _, hc | .nilFunc, _, hc | .nilIface, _, hc
  | .pointer none, _, hc | .slice none _ _, _, hc | .map none, _, hc | .chan none, _, hc => by simpa only [cv] using hc
  | .pointer (some a), v', hc => by
    simp only [cv, Option.map_eq_some_iff] at hc ⊢
    obtain ⟨b, hb, e⟩ := hc
    exact ⟨b, cvAddr_mono h hb, e⟩
  | .slice (some a) n c, v', hc => by
    simp only [cv] at hc ⊢
    exact cvSlice_mono h hc
  | .map (some r), v', hc => by
    simp only [cv, Option.map_eq_some_iff] at hc ⊢
    obtain ⟨b, hb, e⟩ := hc
    exact ⟨b, h _ _ hb, e⟩
  | .chan (some _), v', hc => by simp only [cv] at hc; cases hc
  | .func fn ⟨x⟩ ⟨y⟩, v', hc => by
    simp only [cv] at hc ⊢
    cases hf : cvFn ρ fn with
    | none => rw [hf] at hc; cases hc
    | some f =>
      cases hx : cvL ρ x with
      | none => rw [hf, hx] at hc; cases hc
      | some x' =>
        cases hy : cvL ρ y with
        | none => rw [hf, hx, hy] at hc; cases hc
        | some y' => rw [hf, hx, hy] at hc; rw [cvFn_mono h hf, cvL_mono h x x' hx, cvL_mono h y y' hy]; exact hc
  | .iface t v, v', hc => by
    simp only [cv, Option.map_eq_some_iff] at hc ⊢
    obtain ⟨b, hb, e⟩ := hc
    exact ⟨b, cv_mono h v b hb, e⟩
  | .agg ⟨l⟩, v', hc => by
    simp only [cv, Option.map_eq_some_iff] at hc ⊢
    obtain ⟨b, hb, e⟩ := hc
    exact ⟨b, cvL_mono h l b hb, e⟩
  | .tuple ⟨l⟩, v', hc => by
    simp only [cv, Option.map_eq_some_iff] at hc ⊢
    obtain ⟨b, hb, e⟩ := hc
    exact ⟨b, cvL_mono h l b hb, e⟩
theorem cvL_mono {ρ ρ' : Ren} (h : Le ρ ρ') : ∀ (l l' : List Value), cvL ρ l = some l' → cvL ρ' l = some l'
  | [], _, hc => by simpa only [cvL] using hc
  | v :: r, l', hc => by
    simp only [cvL] at hc ⊢
    cases hv : cv ρ v with
    | none => rw [hv] at hc; cases hc
    | some a =>
      cases hr : cvL ρ r with
      | none => rw [hv, hr] at hc; cases hc
      | some b => rw [hv, hr] at hc; rw [cv_mono h v a hv, cvL_mono h r b hr]; exact hc
end

mutual
theorem cv_scal (ρ : Ren) : ∀ (v : Value), scal v = true → cv ρ v = some v
  | .bool _, _ | .int _ _, _ | .float _ _, _ | .complex _ _ _, _ | .string _, _ | .nilFunc, _ | .nilIface, _
  | .pointer none, _ | .slice none _ _, _ | .map none, _ | .chan none, _ => by simp only [cv]
  | .pointer (some a), h | .slice (some a) _ _, h | .map (some a), h | .chan (some a), h => by simp only [scal] at h; cases h
  | .func fn ⟨x⟩ ⟨y⟩, h => by
    simp only [scal, Bool.and_eq_true] at h
    cases fn with
    | func f => simp only [cv, cvFn, cvL_scal ρ x h.1.2, cvL_scal ρ y h.2]
    | _ => exact absurd h.1.1 (by simp)
  | .iface t v, h => by simp only [scal] at h; simp only [cv, cv_scal ρ v h, Option.map_some]
  | .agg ⟨l⟩, h => by simp only [scal] at h; simp only [cv, cvL_scal ρ l h, Option.map_some]
  | .tuple ⟨l⟩, h => by simp only [scal] at h; simp only [cv, cvL_scal ρ l h, Option.map_some]
theorem cvL_scal (ρ : Ren) : ∀ (l : List Value), scalL l = true → cvL ρ l = some l
  | [], _ => by simp only [cvL]
  | v :: r, h => by
    simp only [scalL, Bool.and_eq_true] at h
    simp only [cvL, cv_scal ρ v h.1, cvL_scal ρ r h.2]
end

theorem cvL_cons {ρ : Ren} {v : Value} {r l : List Value} : cvL ρ (v :: r) = some l ↔ ∃ a b, cv ρ v = some a ∧ cvL ρ r = some b ∧ l = a :: b := by
  simp only [cvL]
  cases cv ρ v <;> cases cvL ρ r <;> simp [eq_comm]
theorem cvL_length {ρ : Ren} : ∀ {l l' : List Value}, cvL ρ l = some l' → l'.length = l.length
  | [], l', h => by simp only [cvL, Option.some.injEq] at h; subst h; rfl
  | v :: r, l', h => by
    obtain ⟨a, b, _, hb, rfl⟩ := cvL_cons.1 h
    simp [cvL_length hb]
theorem cvL_append {ρ : Ren} : ∀ {l m l' m' : List Value}, cvL ρ l = some l' → cvL ρ m = some m' → cvL ρ (l ++ m) = some (l' ++ m')
  | [], m, l', m', h, k => by simp only [cvL, Option.some.injEq] at h; subst h; simpa using k
  | v :: r, m, l', m', h, k => by
    obtain ⟨a, b, ha, hb, rfl⟩ := cvL_cons.1 h
    exact cvL_cons.2 ⟨a, b ++ m', ha, cvL_append hb k, rfl⟩
theorem cvL_get {ρ : Ren} : ∀ {l l' : List Value} (i : Nat) {v : Value}, cvL ρ l = some l' → l[i]? = some v → ∃ v', l'[i]? = some v' ∧ cv ρ v = some v'
  | [], l', i, v, h, k => by simp at k
  | u :: r, l', i, v, h, k => by
    obtain ⟨a, b, ha, hb, rfl⟩ := cvL_cons.1 h
    cases i with
    | zero => simp at k; subst k; exact ⟨a, by simp, ha⟩
    | succ i => simp at k; obtain ⟨v', h1, h2⟩ := cvL_get i hb k; exact ⟨v', by simpa using h1, h2⟩
theorem cvL_drop {ρ : Ren} : ∀ {l l' : List Value} (i : Nat), cvL ρ l = some l' → cvL ρ (l.drop i) = some (l'.drop i)
  | l, l', 0, h => by simpa using h
  | [], l', i + 1, h => by simp only [cvL, Option.some.injEq] at h; subst h; simp [cvL]
  | u :: r, l', i + 1, h => by
    obtain ⟨a, b, ha, hb, rfl⟩ := cvL_cons.1 h
    simpa using cvL_drop i hb
theorem cvL_take {ρ : Ren} : ∀ {l l' : List Value} (i : Nat), cvL ρ l = some l' → cvL ρ (l.take i) = some (l'.take i)
  | l, l', 0, h => by simp [cvL]
  | [], l', i + 1, h => by simp only [cvL, Option.some.injEq] at h; subst h; simp [cvL]
  | u :: r, l', i + 1, h => by
    obtain ⟨a, b, ha, hb, rfl⟩ := cvL_cons.1 h
    simp only [List.take_succ_cons]
    exact cvL_cons.2 ⟨a, _, ha, cvL_take i hb, rfl⟩
theorem cvL_set {ρ : Ren} : ∀ {l l' : List Value} (i : Nat) {v v' : Value}, cvL ρ l = some l' → cv ρ v = some v' → cvL ρ (l.set i v) = some (l'.set i v')
  | [], l', i, v, v', h, _ => by simp only [cvL, Option.some.injEq] at h; subst h; simp [cvL]
  | u :: r, l', 0, v, v', h, k => by
    obtain ⟨a, b, ha, hb, rfl⟩ := cvL_cons.1 h
    exact cvL_cons.2 ⟨v', b, k, hb, rfl⟩
  | u :: r, l', i + 1, v, v', h, k => by
    obtain ⟨a, b, ha, hb, rfl⟩ := cvL_cons.1 h
    exact cvL_cons.2 ⟨a, _, ha, cvL_set i hb k, rfl⟩
theorem cvL_map {ρ : Ren} {α : Type} (f g : α → Value) : ∀ (l : List α), (∀ x ∈ l, cv ρ (f x) = some (g x)) → cvL ρ (l.map f) = some (l.map g)
  | [], _ => by simp [cvL]
  | x :: r, h => cvL_cons.2 ⟨_, _, h x (by simp), cvL_map f g r (fun y hy => h y (by simp [hy])), rfl⟩

theorem cv_agg {ρ : Ren} {l : Array Value} {v' : Value} (h : cv ρ (.agg l) = some v') : ∃ l', v' = .agg l' ∧ cvL ρ l.toList = some l'.toList := by
  obtain ⟨l⟩ := l
  simp only [cv, Option.map_eq_some_iff] at h
  obtain ⟨b, hb, e⟩ := h
  exact ⟨⟨b⟩, e.symm, hb⟩
theorem cv_agg_mk {ρ : Ren} {l l' : Array Value} (h : cvL ρ l.toList = some l'.toList) : cv ρ (.agg l) = some (.agg l') := by
  obtain ⟨l⟩ := l
  simp only [cv, Option.map_eq_some_iff]
  exact ⟨l'.toList, h, rfl⟩
theorem cv_tuple {ρ : Ren} {l : Array Value} {v' : Value} (h : cv ρ (.tuple l) = some v') : ∃ l', v' = .tuple l' ∧ cvL ρ l.toList = some l'.toList := by
  obtain ⟨l⟩ := l
  simp only [cv, Option.map_eq_some_iff] at h
  obtain ⟨b, hb, e⟩ := h
  exact ⟨⟨b⟩, e.symm, hb⟩
theorem cv_tuple_mk {ρ : Ren} {l l' : Array Value} (h : cvL ρ l.toList = some l'.toList) : cv ρ (.tuple l) = some (.tuple l') := by
  obtain ⟨l⟩ := l
  simp only [cv, Option.map_eq_some_iff]
  exact ⟨l'.toList, h, rfl⟩
theorem cv_undef (ρ : Ren) : cv ρ undef = some undef := cv_tuple_mk (by simp [cvL])

theorem cv_func {ρ : Ren} {fn : Fn} {x y : Array Value} {v' : Value} (h : cv ρ (.func fn x y) = some v') :
    ∃ fn' x' y', v' = .func fn' x' y' ∧ cvFn ρ fn = some fn' ∧ cvL ρ x.toList = some x'.toList ∧ cvL ρ y.toList = some y'.toList := by
  obtain ⟨x⟩ := x
  obtain ⟨y⟩ := y
  simp only [cv] at h
  split at h
  · rename_i f x' y' hf hx hy
    exact ⟨f, ⟨x'⟩, ⟨y'⟩, (Option.some.inj h).symm, hf, hx, hy⟩
  · cases h

/- the constructor is the same on both sides -/
theorem cv_cells {ρ : Ren} {v v' : Value} (h : cv ρ v = some v') : cvL ρ v.cells.toList = some v'.cells.toList := by
  cases v with
  | agg l =>
    obtain ⟨l', rfl, hl⟩ := cv_agg h
    exact hl
  | tuple l => obtain ⟨l', rfl, hl⟩ := cv_tuple h; simp only [Value.cells]; exact cvL_cons.2 ⟨_, _, h, rfl, rfl⟩
  | pointer a => cases a <;> (simp only [cv, Option.map_eq_some_iff] at h; first | (cases h; rfl) | (obtain ⟨b, hb, rfl⟩ := h; simp only [Value.cells]; exact cvL_cons.2 ⟨_, _, by simp only [cv, hb, Option.map_some], rfl, rfl⟩))
  | func fn x y => obtain ⟨f, x', y', rfl, h1, h2, h3⟩ := cv_func h; simp only [Value.cells]; exact cvL_cons.2 ⟨_, _, h, rfl, rfl⟩
  | iface t u => simp only [cv, Option.map_eq_some_iff] at h; obtain ⟨b, hb, rfl⟩ := h; simp only [Value.cells]; exact cvL_cons.2 ⟨_, _, by simp only [cv, hb, Option.map_some], rfl, rfl⟩
  | map a => cases a <;> (simp only [cv, Option.map_eq_some_iff] at h; first | (cases h; rfl) | (obtain ⟨b, hb, rfl⟩ := h; simp only [Value.cells]; exact cvL_cons.2 ⟨_, _, by simp only [cv, hb, Option.map_some], rfl, rfl⟩))
  | chan a => cases a <;> (simp only [cv] at h; cases h); rfl
  | slice a n c =>
    have hv : v'.cells = #[v'] := by
      cases a with
      | none => simp only [cv] at h; cases h; rfl
      | some a =>
        simp only [cv, cvSlice] at h
        split at h
        · split at h
          · cases h
          · split at h
            · cases h; rfl
            · split at h
              · cases h; rfl
              · cases h
        · cases h; rfl
        · split at h
          · cases h
          · split at h
            · cases h
            · split at h
              · cases h
              · cases h; split <;> rfl
        · split at h
          · cases h
          · cases h; rfl
        · cases h
    rw [hv]
    exact cvL_cons.2 ⟨_, _, h, rfl, rfl⟩
  | _ => simp only [cv] at h; cases h; rfl
end Go.Am
/- The abstract machine beside the model's: what is related, and operations that only read. -/
namespace Go.Am

theorem pv_run {α : Type} {P : Program} : ∀ {s : Sem α} {a : α}, pv P s = some a → ∀ w, s.run P w = .ok a w
  | .pure a, b, h, w => by simp only [pv, Option.some.injEq] at h; subst h; rfl
  | .program k, b, h, w => by
    simp only [pv] at h
    simp only [Sem.run]
    exact pv_run h w
  | .load .., b, h, w | .store .., b, h, w | .new .., b, h, w | .shape .., b, h, w | .freeze .., b, h, w | .frozen .., b, h, w | .getObj .., b, h, w
  | .setObj .., b, h, w | .choose .., b, h, w | .sys .., b, h, w | .mark .., b, h, w | .halt .., b, h, w => by simp [pv] at h
theorem pv_bind {α β : Type} {P : Program} (f : α → Sem β) : ∀ (s : Sem α), pv P (s >>= f) = (pv P s).bind fun a => pv P (f a)
  | .pure a => by simp [pv, bind, Sem.bind]
  | .program k => by
    show pv P (Sem.program fun p => (k p).bind f) = _
    simp only [pv]
    exact pv_bind f (k P)
  | .load .. | .store .. | .new .. | .shape .. | .freeze .. | .frozen .. | .getObj .. | .setObj .. | .choose .. | .sys .. | .mark .. | .halt .. => by
    simp [pv, bind, Sem.bind]
@[simp] theorem pv_pure {α : Type} {P : Program} (a : α) : pv P (pure a) = some a := rfl
theorem pv_underlying {P : Program} (t : TypeId) : pv P (underlying t) = P.underlying t := by
  unfold underlying program
  rw [pv_bind]
  simp only [pv, Option.bind_some]
  cases P.underlying t <;> simp [pv, stuck]
theorem pv_typeInfo {P : Program} (t : TypeId) : pv P (typeInfo t) = P.info? t := by
  unfold typeInfo program
  rw [pv_bind]
  simp only [pv, Option.bind_some]
  cases P.info? t <;> simp [pv, stuck]
theorem pv_sizeOf {P : Program} (t : TypeId) : pv P (sizeOf t) = asize P t := by
  unfold sizeOf asize
  rw [pv_bind, pv_typeInfo]
  cases P.info? t <;> simp
theorem pv_isAgg {P : Program} (t : TypeId) : pv P (isAgg t) = (P.underlying t).map isAggD := by
  unfold isAgg
  rw [pv_bind, pv_underlying]
  cases P.underlying t with
  | none => rfl
  | some d => cases d <;> rfl
theorem pv_zeroValue {P : Program} (t : TypeId) : pv P (zeroValue t) = (P.info? t).bind (·.zero) := by
  unfold zeroValue
  rw [pv_bind, pv_typeInfo]
  cases P.info? t with
  | none => rfl
  | some i => simp only [Option.bind_some]; cases i.zero <;> simp [pv, unsupported]
theorem azero_zero {P : Program} {t : TypeId} {z : Value} (h : azero P t = some z) : pv P (zeroValue t) = some z ∧ scal z = true := by
  rw [pv_zeroValue]
  unfold azero at h
  split at h
  · rename_i i hi
    rw [hi]
    split at h
    · rename_i z' hz
      split at h
      · rename_i hs; cases h; exact ⟨by simp [hz], hs⟩
      · cases h
    · cases h
  · cases h

/- frames -/
def RelT (ρ : Ren) (n : Nat) (T : Fr) (tmps : Array Value) : Prop := tmps.size = n ∧ ∀ t, t < n → cv ρ (T t) = some (tmps.getD t undef)
theorem RelT.mono {ρ ρ' : Ren} {n : Nat} {T : Fr} {tmps : Array Value} (h : RelT ρ n T tmps) (hl : Le ρ ρ') : RelT ρ' n T tmps :=
  ⟨h.1, fun t ht => cv_mono hl _ _ (h.2 t ht)⟩
theorem RelT.ev {ρ : Ren} {n : Nat} {T : Fr} {a : Act} (h : RelT ρ n T a.tmps) {x : Operand} (hc : constOk x = true) (hx : tmpOk n x = true) : cv ρ (aev T x) = some (a.eval x) := by
  cases x with
  | tmp t => exact h.2 t (by simpa [tmpOk] using hx)
  | const v => exact cv_scal ρ v (by simpa [constOk] using hc)
  | global g => simp [aev, Act.eval, cv, cvAddr]
  | func f => simp [aev, Act.eval, cv, cvFn, cvL]
theorem RelT.put {ρ : Ren} {n : Nat} {T : Fr} {a : Act} (h : RelT ρ n T a.tmps) {dst : Option Tmp} {v v' : Value} (hd : (match dst with | some d => decide (d < n) | none => true) = true) (hv : cv ρ v = some v') :
    RelT ρ n (aput T dst v) (a.put dst v').tmps := by
  cases dst with
  | none => exact h
  | some d =>
    have hd : d < n := by simpa using hd
    refine ⟨by simp [Act.put, h.1], fun t ht => ?_⟩
    simp only [aput, upd, Act.put]
    by_cases e : t = d
    · subst e
      simp [Array.getD_eq_getD_getElem?, h.1, hd, hv]
    · rw [if_neg e]
      have := h.2 t ht
      simp only [Array.getD_eq_getD_getElem?] at this ⊢
      rw [Array.getElem?_setIfInBounds_ne (Ne.symm e)]
      exact this

def cvE (ρ : Ren) (e f : MapEntry) : Prop := cv ρ e.key = some f.key ∧ cv ρ e.val = some f.val ∧ e.born = f.born
def cvEs (ρ : Ren) : List MapEntry → List MapEntry → Prop
  | [], [] => True
  | e :: r, f :: s => cvE ρ e f ∧ cvEs ρ r s
  | _, _ => False

section
variable (P : Program) (w0 : World)
def ObjRel (ρ : Ren) (o : AObj) (L : Loc) (ob : Option Obj) : Prop :=
  match o with
  | .cells cs e g => ∃ C fr, ob = some (.cells C e fr) ∧ (∀ off, off < C.size → ¬ (fr.1 ≤ off ∧ off < fr.2)) ∧
      (if g then L.grow = some (C.size, P.cellsOf e) ∧ cs.length ≤ C.size else L.grow = none ∧ cs.length = C.size) ∧ cvL ρ cs = some (C.toList.take cs.length)
  | .map es clock => L.grow = none ∧ ∃ ES, ob = some (.map ES clock) ∧ cvEs ρ es ES.toList
  | .loop st pend n T ps as bd => L.grow = none ∧ ∃ l : Loop, ob = some (.loop l) ∧ l.state = st ∧ l.pending = pend ∧ RelT ρ n T l.tmps ∧ l.params.toList = ps ∧ l.assign = as ∧ l.body = bd ∧
      codeOk P true n as = true ∧ codeOk P true n bd = true ∧ (∀ t ∈ ps, t < n) ∧ (pend = none ∨ pend = some .ret ∨ ∃ id, pend = some (.exit id))
  | .siter s pos => L.grow = none ∧ ob = some (.stringIter s pos)
  | .miter m since seen last => L.grow = none ∧ ∃ M, (match m with | none => M = none | some i => ∃ K, ρ i = some K ∧ M = some K.blk) ∧ ob = some (.mapIter M since seen.toArray last)
  | .dead => True

def alive : AObj → Prop
  | .dead => False
  | _ => True

structure Rel (ρ : Ren) (H : AH) (W : World) : Prop where
  size : w0.heap.size ≤ W.heap.size
  base : ∀ b, b < w0.heap.size → W.heap[b]? = w0.heap[b]?
  lo : ∀ i L, ρ i = some L → w0.heap.size ≤ L.blk ∧ L.blk < W.heap.size
  inj : ∀ i j o q L M, H[i]? = some o → H[j]? = some q → alive o → alive q → ρ i = some L → ρ j = some M → L.blk = M.blk → i = j
  obj : ∀ i o L, H[i]? = some o → ρ i = some L → ObjRel P ρ o L W.heap[L.blk]?
end

variable {P : Program} {w0 : World} {ρ : Ren} {H : AH} {W : World} {n : Nat} {T : Fr} {a : Act}

theorem addr_none {a : Addr} (h : a.spot = none) : (⟨a.block, a.off, none⟩ : Addr) = a := by
  obtain ⟨b, o, s⟩ := a
  simp at h
  rw [h]

theorem cvL_tag : ∀ {l l' : List Value}, tagL l = some l' → cvL ρ l' = some l
  | [], l', h => by simp only [tagL, Option.some.injEq] at h; subst h; rfl
  | v :: r, l', h => by
    simp only [tagL] at h
    split at h
    · rename_i a b ha hb
      cases h
      refine cvL_cons.2 ⟨v, r, ?_, cvL_tag hb, rfl⟩
      unfold tagV at ha
      split at ha
      · split at ha
        · rename_i hs; cases ha; simp [cv, cvAddr, addr_none hs]
        · cases ha
      · split at ha
        · rename_i hs; cases ha; simp [cv, cvSlice, addr_none hs]
        · cases ha
      · split at ha
        · rename_i hs; cases ha; simp [cv, cvAddr, addr_none hs]
        · cases ha
      · split at ha
        · rename_i hs; cases ha; exact cv_scal ρ _ hs
        · cases ha
    · cases h
theorem tagV_cv {v v' : Value} (h : tagV v = some v') : cv ρ v' = some v := by
  have : tagL [v] = some [v'] := by simp [tagL, h]
  obtain ⟨x, y, hx, hy, e⟩ := cvL_cons.1 (cvL_tag (ρ := ρ) this)
  simp at e
  rw [hx, e.1]

/- m cells from an address on -/
def CellsAt (W : World) (b off : Nat) (l : List Value) : Prop := ∀ j v, l[j]? = some v → W.cell? ⟨b, off + j, none⟩ = some v

theorem cells_of_heap {b off m : Nat} {C : Array Value} {e : TypeId} {fr : Nat × Nat} (h : W.heap[b]? = some (.cells C e fr)) : CellsAt W b off ((C.toList.drop off).take m) := by
  intro j v hv
  rw [List.getElem?_take] at hv
  split at hv
  · rw [List.getElem?_drop] at hv
    simp only [World.cell?, h, Option.isSome_none, Bool.false_eq_true, if_false]
    simpa using hv
  · cases hv

/- where a new object's cells lie -/
theorem Rel.row (R : Rel P w0 ρ H W) {i : Nat} {cs : List Value} {e : TypeId} {g : Bool} {L : Loc} (hi : H[i]? = some (.cells cs e g)) (hρ : ρ i = some L) :
    ∃ C fr, W.heap[L.blk]? = some (.cells C e fr) ∧ (∀ off, off < C.size → ¬ (fr.1 ≤ off ∧ off < fr.2)) ∧ cs.length ≤ C.size ∧
      (if g then L.grow = some (C.size, P.cellsOf e) else L.grow = none ∧ cs.length = C.size) ∧ cvL ρ cs = some (C.toList.take cs.length) := by
  obtain ⟨C, fr, h1, h2, h3, h4⟩ := R.obj i _ L hi hρ
  refine ⟨C, fr, h1, h2, ?_, ?_, h4⟩
  · cases g <;> simp at h3 <;> omega
  · cases g <;> simp at h3 ⊢ <;> first | exact h3 | exact h3.1

theorem take_drop_take {α : Type} (l : List α) (k off m : Nat) (h : off + m ≤ k) : ((l.take k).drop off).take m = (l.drop off).take m := by
  rw [List.drop_take, List.take_take, Nat.min_eq_left (by omega)]

theorem acells_rel (R : Rel P w0 ρ H W) {a b : Addr} {m : Nat} {l : List Value} (h : acells w0 H a m = some l) (hb : (ρ a.block).map (fun L => (⟨L.blk, a.off, none⟩ : Addr)) = some b ∧ (a.spot = none ∨ a.spot = some 2) ∨ a.spot = some 0 ∧ b = ⟨a.block, a.off, none⟩) :
    ∃ l', cvL ρ l = some l' ∧ l'.length = m ∧ CellsAt W b.block b.off l' ∧ b.spot = none := by
  unfold acells at h
  have new : ∀ (hsp : (ρ a.block).map (fun L => (⟨L.blk, a.off, none⟩ : Addr)) = some b)
      (h' : (match H[a.block]? with | some (.cells cs _ _) => if a.off + m ≤ cs.length then some ((cs.drop a.off).take m) else none | _ => none) = some l),
      ∃ l', cvL ρ l = some l' ∧ l'.length = m ∧ CellsAt W b.block b.off l' ∧ b.spot = none := by
    intro hsp h'
    split at h'
    · rename_i cs e g hH
      split at h'
      · rename_i hlen
        cases h'
        rw [Option.map_eq_some_iff] at hsp
        obtain ⟨L, hL, rfl⟩ := hsp
        obtain ⟨C, fr, hC, _, hle, _, hcv⟩ := R.row hH hL
        refine ⟨_, cvL_take m (cvL_drop a.off hcv), ?_, ?_, rfl⟩
        · rw [take_drop_take _ _ _ _ hlen]; simp; omega
        · rw [take_drop_take _ _ _ _ hlen]; exact cells_of_heap hC
      · cases h'
    · cases h'
  split at h
  · rename_i hs
    rcases hb with ⟨hb, _⟩ | ⟨hb, _⟩
    · exact new hb h
    · rw [hs] at hb; cases hb
  · rename_i hs
    rcases hb with ⟨_, hb | hb⟩ | ⟨_, rfl⟩
    · rw [hs] at hb; cases hb
    · rw [hs] at hb; cases hb
    · split at h
      · rename_i C e fr hC
        split at h
        · rename_i hlen
          refine ⟨_, cvL_tag h, by simp; omega, ?_, rfl⟩
          have hlt : a.block < w0.heap.size := by
            have := (Array.getElem?_eq_some_iff.1 hC).1
            exact this
          exact cells_of_heap ((R.base _ hlt).trans hC)
        · cases h
      · cases h
  · rename_i hs
    rcases hb with ⟨hb, _⟩ | ⟨hb, _⟩
    · exact new hb h
    · rw [hs] at hb; cases hb
  · cases h
end Go.Am
/- The abstract machine beside the model's: each operation that only reads. -/
namespace Go.Am
variable {P : Program} {w0 : World} {ρ : Ren} {H : AH} {W : World} {n : Nat} {T : Fr} {a : Act}

theorem add_plain (b o j : Nat) : (⟨b, o, none⟩ : Addr).add j = ⟨b, o + j, none⟩ := by unfold Addr.add; split <;> simp_all

theorem run_of_pv {α : Type} {s : Sem α} {x : α} (h : pv P s = some x) (W : World) : s.run P W = .ok x W := pv_run h W

theorem loadCells_at {b o : Nat} {l : List Value} {m : Nat} (h : CellsAt W b o l) (hl : l.length = m) : (loadCells ⟨b, o, none⟩ m).run P W = .ok l.toArray W := by
  subst hl
  exact run_loadCells_list W ⟨b, o, none⟩ l fun j v hv => by rw [add_plain]; exact h j v hv

/- an abstract address and the model's -/
theorem cvAddr_cases {x y : Addr} (h : cvAddr ρ x = some y) :
    (ρ x.block).map (fun L => (⟨L.blk, x.off, none⟩ : Addr)) = some y ∧ (x.spot = none ∨ x.spot = some 2) ∨ x.spot = some 0 ∧ y = ⟨x.block, x.off, none⟩ := by
  unfold cvAddr at h
  split at h
  · rename_i hs; exact .inl ⟨h, .inl hs⟩
  · rename_i hs; exact .inr ⟨hs, (Option.some.inj h).symm⟩
  · cases h

theorem acell_rel (R : Rel P w0 ρ H W) {x y : Addr} {v : Value} (h : acell w0 H x = some v) (hb : (ρ x.block).map (fun L => (⟨L.blk, x.off, none⟩ : Addr)) = some y ∧ (x.spot = none ∨ x.spot = some 2) ∨ x.spot = some 0 ∧ y = ⟨x.block, x.off, none⟩) :
    ∃ v', cv ρ v = some v' ∧ W.cell? y = some v' := by
  have new : ∀ (hsp : (ρ x.block).map (fun L => (⟨L.blk, x.off, none⟩ : Addr)) = some y) (h' : (match H[x.block]? with | some (.cells cs _ _) => cs[x.off]? | _ => none) = some v), ∃ v', cv ρ v = some v' ∧ W.cell? y = some v' := by
    intro hsp h'
    split at h'
    · rename_i cs e g hH
      rw [Option.map_eq_some_iff] at hsp
      obtain ⟨L, hL, rfl⟩ := hsp
      obtain ⟨C, fr, hC, _, hle, _, hcv⟩ := R.row hH hL
      obtain ⟨v', h1, h2⟩ := cvL_get x.off hcv h'
      refine ⟨v', h2, ?_⟩
      rw [List.getElem?_take] at h1
      split at h1
      · simp only [World.cell?, hC, Option.isSome_none, Bool.false_eq_true, if_false]
        simpa using h1
      · cases h1
    · cases h'
  unfold acell at h
  split at h
  · rename_i hs
    rcases hb with ⟨hb, _⟩ | ⟨hb, _⟩
    · exact new hb h
    · rw [hs] at hb; cases hb
  · rename_i hs
    rcases hb with ⟨_, hb | hb⟩ | ⟨_, rfl⟩
    · rw [hs] at hb; cases hb
    · rw [hs] at hb; cases hb
    · split at h
      · rename_i C e fr hC
        rw [Option.bind_eq_some_iff] at h
        obtain ⟨u, hu, ht⟩ := h
        refine ⟨u, tagV_cv ht, ?_⟩
        have hlt : x.block < w0.heap.size := (Array.getElem?_eq_some_iff.1 hC).1
        simp only [World.cell?, R.base _ hlt, hC, Option.isSome_none, Bool.false_eq_true, if_false]
        exact hu
      · cases h
  · rename_i hs
    rcases hb with ⟨hb, _⟩ | ⟨hb, _⟩
    · exact new hb h
    · rw [hs] at hb; cases hb
  · cases h

theorem aload_rel (R : Rel P w0 ρ H W) {t : TypeId} {x x' v : Value} (h : aload P w0 H t x = some v) (hx : cv ρ x = some x') :
    ∃ b v', x' = .pointer (some b) ∧ cv ρ v = some v' ∧ (loadVar t b).run P W = .ok v' W := by
  unfold aload at h
  split at h
  · rename_i ad
    simp only [cv, Option.map_eq_some_iff] at hx
    obtain ⟨b, hb, rfl⟩ := hx
    split at h
    · cases h
    · rename_i d hd
      have hagg : (isAgg t).run P W = .ok (isAggD d) W := pv_run (by rw [pv_isAgg, hd]; rfl) W
      split at h
      · rename_i hag
        split at h
        · rename_i m hm
          rw [Option.map_eq_some_iff] at h
          obtain ⟨l, hl, rfl⟩ := h
          obtain ⟨l', h1, h2, h3, h4⟩ := acells_rel R hl (cvAddr_cases hb)
          refine ⟨b, .agg ⟨l'⟩, rfl, cv_agg_mk h1, ?_⟩
          have hsz : (sizeOf t).run P W = .ok m W := pv_run (by rw [pv_sizeOf, hm]) W
          have hb' : b = ⟨b.block, b.off, none⟩ := by obtain ⟨_, _, s⟩ := b; simp at h4; subst h4; rfl
          rw [hb'] 
          unfold loadVar
          rw [Sem.run_bind, hagg, Result.andThen_ok, if_pos hag]
          simp only [Sem.run_bind, hsz, Result.andThen_ok, loadCells_at h3 h2, Sem.run_pure]
        · cases h
      · rename_i hag
        obtain ⟨v', h1, h2⟩ := acell_rel R h (cvAddr_cases hb)
        refine ⟨b, v', rfl, h1, ?_⟩
        unfold loadVar
        rw [Sem.run_bind, hagg, Result.andThen_ok, if_neg hag]
        simp only [run_load, h2]
  · cases h

theorem pv_runtimePanic {α : Type} (e : RuntimeError) : pv P (runtimePanic e : Sem α) = none := by
  unfold runtimePanic
  rw [pv_bind]
  simp only [program, pv, Option.bind_some]
  cases e <;> simp [pv, goPanic, pv_bind, newVar, newRow, newObj]
theorem pv_boundsPanic {α : Type} (k : IntKind) (x y : Int) (c : BoundsCode) : pv P (boundsPanic k x y c : Sem α) = none := by
  unfold boundsPanic
  dsimp only
  split
  · rw [pv_bind]
    have : pv P ((fun x => x == 1) <$> choose (Question.extern "runtime.boundsError.signed" 2)) = none := by
      rw [map_eq_pure_bind, pv_bind]
      rfl
    rw [this]
    rfl
  · rw [pv_bind]
    simp [pv_runtimePanic]

theorem pv_part {t : TypeId} {cs cs' : Array Value} {off : Nat} {v : Value} (h : pv P (part t cs off) = some v) (hc : cvL ρ cs.toList = some cs'.toList) :
    ∃ v', cv ρ v = some v' ∧ pv P (part t cs' off) = some v' := by
  unfold part at h ⊢
  rw [pv_bind, pv_isAgg] at h ⊢
  cases hu : P.underlying t with
  | none => rw [hu] at h; cases h
  | some d =>
    rw [hu] at h
    simp only [Option.map_some, Option.bind_some] at h ⊢
    split at h
    · rename_i hag
      rw [if_pos hag]
      rw [pv_bind, pv_sizeOf] at h ⊢
      cases hs : asize P t with
      | none => rw [hs] at h; cases h
      | some m =>
        rw [hs] at h
        simp only [Option.bind_some, pv_pure, Option.some.injEq] at h ⊢
        subst h
        refine ⟨_, cv_agg_mk ?_, rfl⟩
        simp only [Array.toList_extract]
        have := cvL_take m (cvL_drop off hc)
        simpa [List.extract_eq_take_drop] using this
    · rename_i hag
      split at h
      · rename_i u hu'
        simp only [pv_pure, Option.some.injEq] at h
        subst h
        rw [← Array.getElem?_toList] at hu'
        obtain ⟨v', h1, h2⟩ := cvL_get off hc hu'
        rw [Array.getElem?_toList] at h1
        exact ⟨v', h2, by rw [if_neg hag, h1]; rfl⟩
      · simp [pv, stuck] at h

theorem field_rel {t : TypeId} {x x' v : Value} {f : Nat} (h : pv P (Instr.field t x f) = some v) (hx : cv ρ x = some x') : ∃ v', cv ρ v = some v' ∧ pv P (Instr.field t x' f) = some v' := by
  unfold Instr.field at h ⊢
  rw [pv_bind, pv_underlying] at h ⊢
  cases hu : P.underlying t with
  | none => rw [hu] at h; cases h
  | some d =>
    rw [hu] at h
    simp only [Option.bind_some] at h ⊢
    cases d <;> try (simp [pv, stuck] at h; done)
    rename_i fs
    simp only at h ⊢
    cases hf : fs[f]? with
    | none => rw [hf] at h; simp [pv, stuck] at h
    | some fd =>
      rw [hf] at h
      simp only at h ⊢
      cases x <;> try (simp [pv, stuck, asAgg, pv_bind] at h; done)
      rename_i cs
      obtain ⟨cs', rfl, hc⟩ := cv_agg hx
      simp only [asAgg, pv_bind, pv_pure, Option.bind_some] at h ⊢
      exact pv_part h hc

theorem extract_rel {x x' v : Value} {i : Nat} (h : pv P (Instr.extract x i) = some v) (hx : cv ρ x = some x') : ∃ v', cv ρ v = some v' ∧ pv P (Instr.extract x' i) = some v' := by
  unfold Instr.extract at h
  split at h
  · rename_i vs
    obtain ⟨vs', rfl, hc⟩ := cv_tuple hx
    unfold Instr.extract
    simp only
    split at h
    · rename_i u hu
      simp only [pv_pure, Option.some.injEq] at h
      subst h
      rw [← Array.getElem?_toList] at hu
      obtain ⟨v', h1, h2⟩ := cvL_get i hc hu
      rw [Array.getElem?_toList] at h1
      exact ⟨v', h2, by rw [h1]; rfl⟩
    · simp [pv, stuck] at h
  · simp [pv, stuck] at h

/- values whose constructor is told -/
theorem cv_int {k : IntKind} {i : Int} {x' : Value} (h : cv ρ (.int k i) = some x') : x' = .int k i := by simp only [cv, Option.some.injEq] at h; exact h.symm
theorem cv_string {s : ByteArray} {x' : Value} (h : cv ρ (.string s) = some x') : x' = .string s := by simp only [cv, Option.some.injEq] at h; exact h.symm
theorem cv_bool {b : Bool} {x' : Value} (h : cv ρ (.bool b) = some x') : x' = .bool b := by simp only [cv, Option.some.injEq] at h; exact h.symm

/- what is an int on the model's side is one here -/
theorem asIntOf_rel {x x' : Value} {k : IntKind} {i : Int} (h : pv P (asIntOf x) = some (k, i)) (hx : cv ρ x = some x') : x = .int k i ∧ x' = .int k i := by
  cases x <;> try (simp [pv, stuck, asIntOf] at h; done)
  · simp only [asIntOf, pv_pure, Option.some.injEq, Prod.mk.injEq] at h
    obtain ⟨rfl, rfl⟩ := h
    exact ⟨rfl, cv_int hx⟩
  · rename_i b; cases b <;> simp [pv, stuck, asIntOf, unsupported] at h

theorem index_rel {t : TypeId} {x x' i i' v : Value} (h : pv P (Instr.index t x i) = some v) (hx : cv ρ x = some x') (hi : cv ρ i = some i') : ∃ v', cv ρ v = some v' ∧ pv P (Instr.index t x' i') = some v' := by
  unfold Instr.index at h
  rw [pv_bind] at h
  cases hk : pv P (asIntOf i) with
  | none => rw [hk] at h; cases h
  | some ki =>
    obtain ⟨k, j⟩ := ki
    obtain ⟨rfl, rfl⟩ := asIntOf_rel hk hi
    rw [hk] at h
    simp only [Option.bind_some] at h
    unfold Instr.index
    rw [pv_bind]
    simp only [asIntOf, pv_pure, Option.bind_some]
    rw [pv_bind, pv_underlying] at h ⊢
    cases hu : P.underlying t with
    | none => rw [hu] at h; cases h
    | some d =>
      rw [hu] at h
      simp only [Option.bind_some] at h ⊢
      cases d <;> cases x <;> try (simp [pv, stuck] at h; done)
      · rename_i s
        have := cv_string hx
        subst this
        refine ⟨v, ?_, h⟩
        simp only at h
        cases hj : (if 0 ≤ j then s[j.toNat]? else none) with
        | none => rw [hj] at h; simp [pv_boundsPanic] at h
        | some b => rw [hj] at h; simp only [pv_pure, Option.some.injEq] at h; subst h; simp [cv]
      · rename_i len e cs
        obtain ⟨cs', rfl, hc⟩ := cv_agg hx
        simp only at h ⊢
        split at h
        · rename_i hb
          rw [if_pos hb]
          rw [pv_bind, pv_sizeOf] at h ⊢
          cases hs : asize P e with
          | none => rw [hs] at h; cases h
          | some m => rw [hs] at h; simp only [Option.bind_some] at h ⊢; exact pv_part h hc
        · simp [pv_boundsPanic] at h
end Go.Am
/- The abstract machine beside the model's: operations that only read, II. -/
namespace Go.Am
variable {P : Program} {w0 : World} {ρ : Ren} {H : AH} {W : World} {n : Nat} {T : Fr} {a : Act}

def PRel (ρ : Ren) : List (Nat × Value) → List (Nat × Value) → Prop
  | [], [] => True
  | (i, v) :: r, (j, u) :: s => i = j ∧ cv ρ v = some u ∧ PRel ρ r s
  | _, _ => False
theorem PRel.of (hT : RelT ρ n T a.tmps) : ∀ (l : List (Nat × Operand)), (∀ p ∈ l, constOk p.2 = true ∧ tmpOk n p.2 = true) → PRel ρ (l.map fun (i, x) => (i, aev T x)) (l.map fun (i, x) => (i, a.eval x))
  | [], _ => trivial
  | (i, x) :: r, h => ⟨rfl, hT.ev (h (i, x) (by simp)).1 (h (i, x) (by simp)).2, PRel.of hT r (fun p hp => h p (by simp [hp]))⟩

theorem fold_set (off : Nat) : ∀ (l l' : List Value) (k : Nat) (c c' : Array Value), cvL ρ l = some l' → cvL ρ c.toList = some c'.toList →
    cvL ρ ((l.zipIdx k).foldl (fun cs (p : Value × Nat) => cs.setIfInBounds (off + p.2) p.1) c).toList = some ((l'.zipIdx k).foldl (fun cs (p : Value × Nat) => cs.setIfInBounds (off + p.2) p.1) c').toList
  | [], l', k, c, c', h, hc => by simp only [cvL, Option.some.injEq] at h; subst h; simpa using hc
  | v :: r, l', k, c, c', h, hc => by
    obtain ⟨a, b, ha, hb, rfl⟩ := cvL_cons.1 h
    simp only [List.zipIdx_cons, List.foldl_cons]
    exact fold_set off r b (k + 1) _ _ hb (by simpa using cvL_set (off + k) hc ha)

theorem fold_arr (off : Nat) (x c : Array Value) : x.zipIdx.foldl (fun cs (p : Value × Nat) => cs.setIfInBounds (off + p.2) p.1) c = x.toList.zipIdx.foldl (fun cs (p : Value × Nat) => cs.setIfInBounds (off + p.2) p.1) c := by
  rw [← Array.foldl_toList, Array.toList_zipIdx]
theorem cells_size {v v' : Value} (h : cv ρ v = some v') : v'.cells.size = v.cells.size := by
  have := cvL_length (cv_cells h)
  simpa using this

theorem fill_rel (place : Nat → Option (Nat × Nat)) : ∀ (l l' : List (Nat × Value)) (c c' out : Array Value), PRel ρ l l' → cvL ρ c.toList = some c'.toList → Instr.fill place c l = some out →
    ∃ out', Instr.fill place c' l' = some out' ∧ cvL ρ out.toList = some out'.toList
  | [], l', c, c', out, hp, hc, h => by
    cases l' with
    | nil => simp only [Instr.fill, Option.some.injEq] at h ⊢; subst h; exact ⟨_, rfl, hc⟩
    | cons _ _ => exact hp.elim
  | (i, v) :: r, l', c, c', out, hp, hc, h => by
    cases l' with
    | nil => exact hp.elim
    | cons q s =>
      obtain ⟨j, u⟩ := q
      obtain ⟨rfl, hv, hr⟩ := hp
      simp only [Instr.fill] at h ⊢
      split at h
      · cases h
      · rename_i off size hpl
        split at h
        · cases h
        · rename_i hsz
          have hl := cvL_length hc
          simp only [Array.length_toList] at hl
          rw [← cells_size hv, ← hl] at hsz
          rw [if_neg hsz]
          refine fill_rel place r s _ _ out hr ?_ h
          have := fold_set (ρ := ρ) off v.cells.toList u.cells.toList 0 c c' (cv_cells hv) hc
          rw [← fold_arr, ← fold_arr] at this
          exact this

theorem build_rel {t : TypeId} {l l' : Array (Nat × Value)} {v : Value} (hp : PRel ρ l.toList l'.toList) (hz : ∀ z, pv P (zeroValue t) = some z → scal z = true) (h : pv P (Instr.build t l) = some v) :
    ∃ v', cv ρ v = some v' ∧ pv P (Instr.build t l') = some v' := by
  unfold Instr.build at h ⊢
  rw [pv_bind] at h ⊢
  cases hzv : pv P (zeroValue t) with
  | none => rw [hzv] at h; cases h
  | some z =>
    rw [hzv] at h
    simp only [Option.bind_some] at h ⊢
    have hs := hz z hzv
    have hzc := cv_cells (cv_scal ρ z hs)
    rw [pv_bind, pv_underlying] at h ⊢
    cases hu : P.underlying t with
    | none => rw [hu] at h; cases h
    | some d =>
      rw [hu] at h
      simp only [Option.bind_some] at h ⊢
      cases d <;> try (simp [pv, stuck] at h; done)
      · rename_i len e
        simp only at h ⊢
        rw [pv_bind, pv_sizeOf] at h ⊢
        cases hse : asize P e with
        | none => rw [hse] at h; cases h
        | some size =>
          rw [hse] at h
          simp only [Option.bind_some] at h ⊢
          split at h
          · rename_i out ho
            obtain ⟨out', h1, h2⟩ := fill_rel _ _ _ _ _ _ hp hzc ho
            rw [h1]
            simp only [pv_pure, Option.some.injEq] at h ⊢
            subst h
            exact ⟨_, cv_agg_mk h2, rfl⟩
          · simp [pv, stuck] at h
      · rename_i fs
        simp only at h ⊢
        rw [pv_bind] at h ⊢
        cases hm : pv P (fs.mapM fun f => do pure (f.offset, ← sizeOf f.type)) with
        | none => rw [hm] at h; cases h
        | some places =>
          rw [hm] at h
          simp only [Option.bind_some] at h ⊢
          split at h
          · rename_i out ho
            obtain ⟨out', h1, h2⟩ := fill_rel _ _ _ _ _ _ hp hzc ho
            rw [h1]
            simp only [pv_pure, Option.some.injEq] at h ⊢
            subst h
            exact ⟨_, cv_agg_mk h2, rfl⟩
          · simp [pv, stuck] at h

theorem cv_ptr_none {x' : Value} (h : cv ρ (.pointer none) = some x') : x' = .pointer none := by simp only [cv, Option.some.injEq] at h; exact h.symm
theorem cv_ptr_some {b : Addr} {x' : Value} (h : cv ρ (.pointer (some b)) = some x') : ∃ c, x' = .pointer (some c) ∧ cvAddr ρ b = some c := by
  simp only [cv, Option.map_eq_some_iff] at h
  obtain ⟨c, h1, h2⟩ := h
  exact ⟨c, h2.symm, h1⟩
theorem cv_slice_none {m c : Nat} {x' : Value} (h : cv ρ (.slice none m c) = some x') : x' = .slice none m c := by simp only [cv, Option.some.injEq] at h; exact h.symm
theorem cv_slice_some {b : Addr} {m c : Nat} {x' : Value} (h : cv ρ (.slice (some b) m c) = some x') : ∃ d c', x' = .slice (some d) m c' := by
  simp only [cv, cvSlice] at h
  split at h
  · split at h
    · cases h
    · split at h
      · cases h; exact ⟨_, _, rfl⟩
      · split at h
        · cases h; exact ⟨_, _, rfl⟩
        · cases h
  · cases h; exact ⟨_, _, rfl⟩
  · split at h
    · cases h
    · split at h
      · cases h
      · split at h
        · cases h
        · rename_i hm
          have hm0 : m = 0 := by omega
          subst hm0
          cases h; split <;> exact ⟨_, _, rfl⟩
  · split at h
    · cases h
    · cases h; exact ⟨_, _, rfl⟩
  · cases h
theorem cv_map_none {x' : Value} (h : cv ρ (.map none) = some x') : x' = .map none := by simp only [cv, Option.some.injEq] at h; exact h.symm
theorem cv_map_some {r : Nat} {x' : Value} (h : cv ρ (.map (some r)) = some x') : ∃ L, ρ r = some L ∧ x' = .map (some L.blk) := by
  simp only [cv, Option.map_eq_some_iff] at h
  obtain ⟨L, h1, h2⟩ := h
  exact ⟨L, h1, h2.symm⟩
theorem cv_iface {t : TypeId} {v x' : Value} (h : cv ρ (.iface t v) = some x') : ∃ v', x' = .iface t v' ∧ cv ρ v = some v' := by
  simp only [cv, Option.map_eq_some_iff] at h
  obtain ⟨v', h1, h2⟩ := h
  exact ⟨v', h2.symm, h1⟩
theorem cv_nilIface {x' : Value} (h : cv ρ .nilIface = some x') : x' = .nilIface := by simp only [cv, Option.some.injEq] at h; exact h.symm

theorem isNone_rel_ptr {a : Option Addr} {x' : Value} (h : cv ρ (.pointer a) = some x') : ∃ a', x' = .pointer a' ∧ a'.isNone = a.isNone := by
  cases a with
  | none => exact ⟨none, cv_ptr_none h, rfl⟩
  | some b => obtain ⟨c, rfl, _⟩ := cv_ptr_some h; exact ⟨some c, rfl, rfl⟩
theorem isNone_rel_slice {a : Option Addr} {m c : Nat} {x' : Value} (h : cv ρ (.slice a m c) = some x') : ∃ a' m' c', x' = .slice a' m' c' ∧ a'.isNone = a.isNone := by
  cases a with
  | none => exact ⟨none, m, c, cv_slice_none h, rfl⟩
  | some b => obtain ⟨d, c', rfl⟩ := cv_slice_some h; exact ⟨some d, _, c', rfl, rfl⟩
theorem isNone_rel_map {a : Option Nat} {x' : Value} (h : cv ρ (.map a) = some x') : ∃ a', x' = .map a' ∧ a'.isNone = a.isNone := by
  cases a with
  | none => exact ⟨none, cv_map_none h, rfl⟩
  | some b => obtain ⟨L, _, rfl⟩ := cv_map_some h; exact ⟨some L.blk, rfl, rfl⟩

theorem run_equal {t : TypeId} {x y : Value} {b : Bool} (h : ∀ d, (Op.equalIn (d + 1) t x y).run P W = .ok b W) : (Op.equal t x y).run P W = .ok b W := h 9999
theorem run_eq_ptr {t e : TypeId} (hu : P.underlying t = some (.pointer e)) (a b : Option Addr) (h : (a.isNone || b.isNone) = true) (W : World) : (Op.equal t (.pointer a) (.pointer b)).run P W = .ok (a.isNone && b.isNone) W := by
  have hun := run_underlying hu W
  refine run_equal fun d => ?_
  cases a <;> cases b <;> simp [Op.equalIn, hun] at h ⊢
theorem run_eq_slice {t e : TypeId} (hu : P.underlying t = some (.slice e)) (a b : Option Addr) (m c m' c' : Nat) (h : (a.isNone || b.isNone) = true) (W : World) : (Op.equal t (.slice a m c) (.slice b m' c')).run P W = .ok (a.isNone && b.isNone) W := by
  have hun := run_underlying hu W
  refine run_equal fun d => ?_
  cases a <;> cases b <;> simp [Op.equalIn, hun] at h ⊢
theorem run_eq_map {t k e : TypeId} (hu : P.underlying t = some (.map k e)) (a b : Option Nat) (h : (a.isNone || b.isNone) = true) (W : World) : (Op.equal t (.map a) (.map b)).run P W = .ok (a.isNone && b.isNone) W := by
  have hun := run_underlying hu W
  refine run_equal fun d => ?_
  cases a <;> cases b <;> simp [Op.equalIn, hun] at h ⊢
theorem run_eq_iface {t : TypeId} {ms : Array (String × TypeId)} (hu : P.underlying t = some (.interface ms)) (u : TypeId) (v : Value) (W : World) : (Op.equal t (.iface u v) .nilIface).run P W = .ok false W := by
  have hun := run_underlying hu W
  refine run_equal fun d => ?_
  simp [Op.equalIn, hun]

theorem onlyScal_some {o : Option Value} {v : Value} (h : onlyScal o = some v) : o = some v ∧ scal v = true := by
  unfold onlyScal at h
  split at h
  · split at h
    · rename_i hs; cases h; exact ⟨rfl, hs⟩
    · cases h
  · cases h

theorem abin_rel {op : BinOp} {t : TypeId} {xo yo : Operand} {x y x' y' v : Value} (h : abin P op t xo yo x y = some v) (hx : cv ρ x = some x') (hy : cv ρ y = some y')  :
    ∃ v', cv ρ v = some v' ∧ (do eqGuard op t xo yo x' y'; binOp op t x' y').run P W = .ok v' W := by
  unfold abin at h
  split at h
  · rename_i hs
    rw [Bool.and_eq_true] at hs
    rw [cv_scal ρ x hs.1] at hx
    rw [cv_scal ρ y hs.2] at hy
    cases hx
    cases hy
    obtain ⟨h1, h2⟩ := onlyScal_some h
    exact ⟨v, cv_scal ρ v h2, pv_run h1 W⟩
  · split at h <;> try (cases h; done)
    · rename_i e a b hu hns
      obtain ⟨a', rfl, ha⟩ := isNone_rel_ptr hx
      obtain ⟨b', rfl, hb⟩ := isNone_rel_ptr hy
      split at h
      · rename_i hn
        cases h
        rw [← ha, ← hb] at hn ⊢
        exact ⟨_, rfl, by simp [eqGuard, binOp, run_eq_ptr hu a' b' hn]⟩
      · cases h
    · rename_i e a b hu hns
      obtain ⟨a', rfl, ha⟩ := isNone_rel_ptr hx
      obtain ⟨b', rfl, hb⟩ := isNone_rel_ptr hy
      split at h
      · rename_i hn
        cases h
        rw [← ha, ← hb] at hn ⊢
        exact ⟨_, rfl, by simp [eqGuard, binOp, run_eq_ptr hu a' b' hn]⟩
      · cases h
    · rename_i e a m c b m2 c2 hu hns
      obtain ⟨a', m', c', rfl, ha⟩ := isNone_rel_slice hx
      obtain ⟨b', n', d', rfl, hb⟩ := isNone_rel_slice hy
      split at h
      · rename_i hn
        cases h
        rw [← ha, ← hb] at hn ⊢
        exact ⟨_, rfl, by simp [eqGuard, binOp, run_eq_slice hu a' b' _ _ _ _ hn]⟩
      · cases h
    · rename_i e a m c b m2 c2 hu hns
      obtain ⟨a', m', c', rfl, ha⟩ := isNone_rel_slice hx
      obtain ⟨b', n', d', rfl, hb⟩ := isNone_rel_slice hy
      split at h
      · rename_i hn
        cases h
        rw [← ha, ← hb] at hn ⊢
        exact ⟨_, rfl, by simp [eqGuard, binOp, run_eq_slice hu a' b' _ _ _ _ hn]⟩
      · cases h
    · rename_i k e a b hu hns
      obtain ⟨a', rfl, ha⟩ := isNone_rel_map hx
      obtain ⟨b', rfl, hb⟩ := isNone_rel_map hy
      split at h
      · rename_i hn
        cases h
        rw [← ha, ← hb] at hn ⊢
        exact ⟨_, rfl, by simp [eqGuard, binOp, run_eq_map hu a' b' hn]⟩
      · cases h
    · rename_i k e a b hu hns
      obtain ⟨a', rfl, ha⟩ := isNone_rel_map hx
      obtain ⟨b', rfl, hb⟩ := isNone_rel_map hy
      split at h
      · rename_i hn
        cases h
        rw [← ha, ← hb] at hn ⊢
        exact ⟨_, rfl, by simp [eqGuard, binOp, run_eq_map hu a' b' hn]⟩
      · cases h
    · rename_i ms u z hu hns
      obtain ⟨z', rfl, _⟩ := cv_iface hx
      have := cv_nilIface hy
      subst this
      cases h
      exact ⟨_, rfl, by simp [eqGuard, binOp, run_eq_iface hu u z']⟩
    · rename_i ms u z hu hns
      obtain ⟨z', rfl, _⟩ := cv_iface hx
      have := cv_nilIface hy
      subst this
      cases h
      exact ⟨_, rfl, by simp [eqGuard, binOp, run_eq_iface hu u z']⟩
end Go.Am
/- The abstract machine beside the model's: operations that only read, III; all of them. -/
namespace Go.Am
variable {P : Program} {w0 : World} {ρ : Ren} {H : AH} {W : World} {n : Nat} {T : Fr} {a : Act}

theorem nums_cells : ∀ {l l' : List Value} {bs : List Int}, numsOfCells l = some bs → cvL ρ l = some l' → l' = bs.map fun b => .int .u8 b
  | [], l', bs, h, hc => by
    simp only [numsOfCells, Option.some.injEq] at h
    simp only [cvL, Option.some.injEq] at hc
    subst h hc
    rfl
  | v :: r, l', bs, h, hc => by
    obtain ⟨x, y, hx, hy, rfl⟩ := cvL_cons.1 hc
    cases v <;> try (simp [numsOfCells] at h; done)
    rename_i k i
    cases k <;> try (simp [numsOfCells] at h; done)
    simp only [numsOfCells, Option.map_eq_some_iff] at h
    obtain ⟨bs', hb, rfl⟩ := h
    have := cv_int hx
    subst this
    simp [nums_cells hb hy]

theorem cvSlice_addr {b : Addr} {m c : Nat} {x' : Value} (h : cv ρ (.slice (some b) m c) = some x') (hs : b.spot ≠ some 1) :
    ∃ d c', x' = .slice (some d) m c' ∧ ((ρ b.block).map (fun L => (⟨L.blk, b.off, none⟩ : Addr)) = some d ∧ (b.spot = none ∨ b.spot = some 2) ∨ b.spot = some 0 ∧ d = ⟨b.block, b.off, none⟩) := by
  simp only [cv, cvSlice] at h
  split at h
  · rename_i hsp
    split at h
    · cases h
    · rename_i L hL
      split at h
      · cases h; exact ⟨_, _, rfl, .inl ⟨by simp [hL], .inl hsp⟩⟩
      · split at h
        · cases h; exact ⟨_, _, rfl, .inl ⟨by simp [hL], .inl hsp⟩⟩
        · cases h
  · rename_i hsp
    cases h; exact ⟨_, _, rfl, .inr ⟨hsp, rfl⟩⟩
  · rename_i hsp; exact absurd hsp hs
  · rename_i hsp
    split at h
    · cases h
    · rename_i L hL
      cases h; exact ⟨_, _, rfl, .inl ⟨by simp [hL], .inr hsp⟩⟩
  · cases h

theorem acells_spot {x : Addr} {m : Nat} {l : List Value} (h : acells w0 H x m = some l) : x.spot ≠ some 1 := by
  intro hs
  unfold acells at h
  rw [hs] at h
  cases h

theorem aconvR_rel (R : Rel P w0 ρ H W) {s d : TypeId} {x x' v : Value} (h : aconvR P w0 H s d x = some v) (hx : cv ρ x = some x') : ∃ v', cv ρ v = some v' ∧ (convert s d x').run P W = .ok v' W := by
  unfold aconvR at h
  split at h
  · rename_i e m c hus hud
    have := cv_slice_none hx
    subst this
    split at h
    · rename_i he
      cases h
      exact ⟨_, rfl, by simp [convert, run_underlying hus, run_underlying hud, run_underlying he, Conv.bytesToString]⟩
    · cases h
  · rename_i e b m c hus hud
    split at h
    · rename_i he
      split at h
      · rename_i hm
        subst hm
        cases h
        obtain ⟨d', c', hx'⟩ := cv_slice_some hx
        subst hx'
        exact ⟨_, rfl, by simp [convert, run_underlying hus, run_underlying hud, run_underlying he, Conv.bytesToString, loadCells, loadCellsFrom]⟩
      · split at h
        · rename_i l hl
          rw [Option.map_eq_some_iff] at h
          obtain ⟨bs, hbs, rfl⟩ := h
          obtain ⟨d', c', rfl, hd⟩ := cvSlice_addr hx (acells_spot hl)
          obtain ⟨l', h1, h2, h3, h4⟩ := acells_rel R hl hd
          have hl' := nums_cells hbs h1
          subst hl'
          have hd' : d' = ⟨d'.block, d'.off, none⟩ := by obtain ⟨_, _, s⟩ := d'; simp at h4; subst h4; rfl
          rw [hd']
          refine ⟨_, rfl, run_convert_bytes_arg W s e hus he _ _ m c' bs (by simpa using h2) (fun i hi => ?_) d hud⟩
          have hlen : bs.length = m := by simpa using h2
          exact h3 i _ (by simp [List.getD, hlen, hi])
        · cases h
    · cases h
  · rename_i hs hd _ _
    split at h
    · rename_i hsc
      obtain ⟨h1, h2⟩ := onlyScal_some h
      rw [Bool.and_eq_true] at hsc
      rw [cv_scal ρ _ hsc.1] at hx
      cases hx
      exact ⟨v, cv_scal ρ v h2, pv_run h1 W⟩
    · cases h
  · cases h

theorem cvEs_length : ∀ {l m : List MapEntry}, cvEs ρ l m → m.length = l.length
  | [], [], _ => rfl
  | [], _ :: _, h => h.elim
  | _ :: _, [], h => h.elim
  | e :: r, f :: s, h => by simp [cvEs_length h.2]

theorem alen_rel (R : Rel P w0 ρ H W) {ts : Array TypeId} {ty : TypeId} {l : List Value} {l' : List Value} {v : Value} (h : alen P H ts l = some v) (hx : cvL ρ l = some l') :
    ∃ v', cv ρ v = some v' ∧ (Builtin.len_ ts ty ⟨l'⟩).run P W = .ok v' W := by
  unfold alen at h
  split at h
  · rename_i t x ht
    obtain ⟨x', r', hx1, hr, rfl⟩ := cvL_cons.1 hx
    clear hx
    simp only [cvL, Option.some.injEq] at hr
    subst hr
    split at h
    · rename_i s hu
      have := cv_string hx1
      subst this
      cases h
      exact ⟨_, rfl, by simp [Builtin.len_, ht, run_underlying hu, goInt]⟩
    · rename_i e b m c hu
      cases h
      refine ⟨_, rfl, ?_⟩
      cases b with
      | none => have := cv_slice_none hx1; subst this; simp [Builtin.len_, ht, run_underlying hu, goInt]
      | some b =>
        obtain ⟨d', c', rfl⟩ := cv_slice_some hx1
        simp [Builtin.len_, ht, run_underlying hu, goInt]
    · rename_i k e hu
      cases h
      exact ⟨_, rfl, by simp [Builtin.len_, ht, run_underlying hu, goInt]⟩
    · rename_i k e hu
      have := cv_map_none hx1
      subst this
      cases h
      exact ⟨_, rfl, by simp [Builtin.len_, ht, run_underlying hu, goInt]⟩
    · rename_i k e r hu
      obtain ⟨L, hL, rfl⟩ := cv_map_some hx1
      split at h
      · rename_i es c hH
        cases h
        refine ⟨_, rfl, ?_⟩
        obtain ⟨_, ES, h1, h2⟩ := R.obj _ _ _ hH hL
        have hlen := cvEs_length h2
        simp at hlen
        simp [Builtin.len_, ht, run_underlying hu, goInt, getObj, Sem.run, h1, hlen]
      · cases h
    · cases h
  · cases h
end Go.Am
/- The abstract machine beside the model's: operations that only read, IV. -/
namespace Go.Am
variable {P : Program} {w0 : World} {ρ : Ren} {H : AH} {W : World} {n : Nat} {T : Fr} {a : Act}

theorem acap_rel (R : Rel P w0 ρ H W) {ts : Array TypeId} {ty : TypeId} {l l' : List Value} {v : Value} (h : acap P H ts l = some v) (hx : cvL ρ l = some l') :
    ∃ v', cv ρ v = some v' ∧ (Builtin.cap_ ts ty ⟨l'⟩).run P W = .ok v' W := by
  unfold acap at h
  split at h
  · rename_i t m c ht
    obtain ⟨x', r', hx1, hr, rfl⟩ := cvL_cons.1 hx
    clear hx
    simp only [cvL, Option.some.injEq] at hr
    subst hr
    split at h
    · rename_i e hu
      have := cv_slice_none hx1
      subst this
      cases h
      exact ⟨_, rfl, by simp [Builtin.cap_, ht, run_underlying hu, goInt]⟩
    · cases h
  · rename_i t b m c ht
    obtain ⟨x', r', hx1, hr, rfl⟩ := cvL_cons.1 hx
    clear hx
    simp only [cvL, Option.some.injEq] at hr
    subst hr
    split at h
    · rename_i e hu
      simp only [cv, cvSlice] at hx1
      split at h
      · rename_i hs
        rw [hs] at hx1
        cases h; cases hx1
        exact ⟨_, rfl, by simp [Builtin.cap_, ht, run_underlying hu, goInt]⟩
      · rename_i hs
        rw [hs] at hx1
        simp only at hx1
        split at hx1
        · cases hx1
        · cases h; cases hx1
          exact ⟨_, rfl, by simp [Builtin.cap_, ht, run_underlying hu, goInt]⟩
      · rename_i hs
        rw [hs] at hx1
        simp only at hx1
        split at h
        · rename_i cs e' hH
          split at hx1
          · cases hx1
          · rename_i L hL
            obtain ⟨_, _, _, _, _, hg, _⟩ := R.row hH hL
            simp at hg
            rw [hg.1] at hx1
            cases h; cases hx1
            exact ⟨_, rfl, by simp [Builtin.cap_, ht, run_underlying hu, goInt]⟩
        · cases h
      · cases h
    · cases h
  · cases h

/- keys -/
theorem findNow_rel (kind : TypeDesc) (k : Value) : ∀ (es ES : List MapEntry) (i : Nat) (r : Option (Nat × Value)), cvEs ρ es ES → (∀ e ∈ es, scal e.key = true) → Instr.findNow kind k es i = some r →
    ∃ r', Instr.findNow kind k ES i = some r' ∧ (r = none ∧ r' = none ∨ ∃ j v v', r = some (j, v) ∧ r' = some (j, v') ∧ cv ρ v = some v')
  | [], ES, i, r, hc, hk, h => by
    cases ES with
    | nil => simp only [Instr.findNow, Option.some.injEq] at h ⊢; subst h; exact ⟨none, rfl, .inl ⟨rfl, rfl⟩⟩
    | cons _ _ => exact hc.elim
  | e :: es, ES, i, r, hc, hk, h => by
    cases ES with
    | nil => exact hc.elim
    | cons f ES =>
      obtain ⟨⟨h1, h2, h3⟩, hr⟩ := hc
      rw [cv_scal ρ _ (hk e (by simp)), Option.some.injEq] at h1
      simp only [Instr.findNow] at h ⊢
      rw [← h1]
      cases hs : Instr.sameNow kind k e.key with
      | none => rw [hs] at h; cases h
      | some b =>
        rw [hs] at h
        cases b with
        | true => simp only [Option.some.injEq] at h ⊢; subst h; exact ⟨_, rfl, .inr ⟨i, e.val, f.val, rfl, rfl, h2⟩⟩
        | false => exact findNow_rel kind k es ES (i + 1) r hr (fun x hx => hk x (by simp [hx])) h
theorem findNow_none (kind : TypeDesc) (k : Value) : ∀ (es ES : List MapEntry) (i : Nat), cvEs ρ es ES → (∀ e ∈ es, scal e.key = true) → Instr.findNow kind k es i = none → Instr.findNow kind k ES i = none
  | [], ES, i, hc, hk, h => by simp [Instr.findNow] at h
  | e :: es, ES, i, hc, hk, h => by
    cases ES with
    | nil => exact hc.elim
    | cons f ES =>
      obtain ⟨⟨h1, h2, h3⟩, hr⟩ := hc
      rw [cv_scal ρ _ (hk e (by simp)), Option.some.injEq] at h1
      simp only [Instr.findNow] at h ⊢
      rw [← h1]
      cases hs : Instr.sameNow kind k e.key with
      | none => rfl
      | some b =>
        rw [hs] at h
        cases b with
        | true => simp at h
        | false => exact findNow_none kind k es ES (i + 1) hr (fun x hx => hk x (by simp [hx])) h
theorem findAsking_rel (kt : TypeId) (k : Value) : ∀ (es ES : List MapEntry) (i : Nat) (r : Option (Nat × Value)), cvEs ρ es ES → (∀ e ∈ es, scal e.key = true) → pv P (Instr.findAsking kt k es i) = some r →
    ∃ r', pv P (Instr.findAsking kt k ES i) = some r' ∧ (r = none ∧ r' = none ∨ ∃ j v v', r = some (j, v) ∧ r' = some (j, v') ∧ cv ρ v = some v')
  | [], ES, i, r, hc, hk, h => by
    cases ES with
    | nil => simp only [Instr.findAsking, pv_pure, Option.some.injEq] at h ⊢; subst h; exact ⟨none, rfl, .inl ⟨rfl, rfl⟩⟩
    | cons _ _ => exact hc.elim
  | e :: es, ES, i, r, hc, hk, h => by
    cases ES with
    | nil => exact hc.elim
    | cons f ES =>
      obtain ⟨⟨h1, h2, h3⟩, hr⟩ := hc
      rw [cv_scal ρ _ (hk e (by simp)), Option.some.injEq] at h1
      simp only [Instr.findAsking] at h ⊢
      rw [← h1]
      rw [pv_bind] at h ⊢
      cases hs : pv P (Op.equal kt k e.key) with
      | none => rw [hs] at h; cases h
      | some b =>
        rw [hs] at h
        simp only [Option.bind_some] at h ⊢
        cases b with
        | true => simp only [if_true, pv_pure, Option.some.injEq] at h ⊢; subst h; exact ⟨_, rfl, .inr ⟨i, e.val, f.val, rfl, rfl, h2⟩⟩
        | false => simp only [Bool.false_eq_true, if_false] at h ⊢; exact findAsking_rel kt k es ES (i + 1) r hr (fun x hx => hk x (by simp [hx])) h

theorem cvEs_isEmpty : ∀ {l m : List MapEntry}, cvEs ρ l m → m.isEmpty = l.isEmpty
  | [], [], _ => rfl
  | [], _ :: _, h => h.elim
  | _ :: _, [], h => h.elim
  | _ :: _, _ :: _, _ => rfl

theorem afind_rel {kt : TypeId} {k k' : Value} {es ES : List MapEntry} {empty : Bool} {r : Option (Nat × Value)} (h : afind P kt k es empty = some r) (hk : cv ρ k = some k') (hc : cvEs ρ es ES) :
    k' = k ∧ (∃ u, pv P (Instr.checkKey empty 10000 kt k) = some u) ∧ (∀ e ∈ es, scal e.key = true) ∧
    ∃ r', pv P (Instr.findKey kt k ES) = some r' ∧ (r = none ∧ r' = none ∨ ∃ j v v', r = some (j, v) ∧ r' = some (j, v') ∧ cv ρ v = some v') := by
  unfold afind at h
  split at h
  · rename_i hs
    rw [Bool.and_eq_true, List.all_eq_true] at hs
    rw [cv_scal ρ _ hs.1, Option.some.injEq] at hk
    split at h
    · rename_i u hu
      refine ⟨hk.symm, ⟨u, hu⟩, hs.2, ?_⟩
      unfold Instr.findKey at h ⊢
      rw [pv_bind, pv_underlying] at h ⊢
      cases hd : P.underlying kt with
      | none => rw [hd] at h; cases h
      | some d =>
        rw [hd] at h
        simp only [Option.bind_some] at h ⊢
        cases hf : Instr.findNow d k es 0 with
        | some r0 =>
          rw [hf] at h
          simp only [pv_pure, Option.some.injEq] at h
          subst h
          obtain ⟨r', h1, h2⟩ := findNow_rel d k es ES 0 r0 hc hs.2 hf
          exact ⟨r', by rw [h1]; rfl, h2⟩
        | none =>
          rw [hf] at h
          rw [findNow_none d k es ES 0 hc hs.2 hf]
          exact findAsking_rel kt k es ES 0 r hc hs.2 h
    · cases h
  · cases h

theorem run_zero {t : TypeId} {z : Value} (h : azero P t = some z) (W : World) : (zeroValue t).run P W = .ok z W := pv_run (azero_zero h).1 W

theorem run_getObj_map {r : Nat} {ES : Array MapEntry} {c : Nat} (h : W.heap[r]? = some (.map ES c)) : (getObj r).run P W = .ok (.map ES c) W := by simp [getObj, Sem.run, h]
def MapIs (W : World) (mv : Value) (ES : Array MapEntry) : Prop := mv = .map none ∧ ES = #[] ∨ ∃ r c, mv = .map (some r) ∧ W.heap[r]? = some (.map ES c)
theorem lookup_some {t kt et : TypeId} {mv k x : Value} {ES : Array MapEntry} {ok : Bool} {j : Nat} {u : Unit} (hu : P.underlying t = some (.map kt et)) (hmv : MapIs W mv ES) (hck : (Instr.checkKey ES.isEmpty 10000 kt k).run P W = .ok u W)
    (hfk : (Instr.findKey kt k ES.toList).run P W = .ok (some (j, x)) W) : (Instr.lookup t mv k ok).run P W = .ok (if ok then .tuple #[x, .bool true] else x) W := by
  rcases hmv with ⟨rfl, rfl⟩ | ⟨r, c, rfl, hr⟩
  · simp only [Instr.lookup, Sem.run_bind, run_underlying hu, Result.andThen_ok, Sem.run_pure, hck, hfk]
  · simp only [Instr.lookup, Sem.run_bind, run_underlying hu, Result.andThen_ok, Sem.run_pure, run_getObj_map hr, hck, hfk]
theorem lookup_none {t kt et : TypeId} {mv k z : Value} {ES : Array MapEntry} {ok : Bool} {u : Unit} (hu : P.underlying t = some (.map kt et)) (hmv : MapIs W mv ES) (hck : (Instr.checkKey ES.isEmpty 10000 kt k).run P W = .ok u W)
    (hfk : (Instr.findKey kt k ES.toList).run P W = .ok none W) (hz : (zeroValue et).run P W = .ok z W) : (Instr.lookup t mv k ok).run P W = .ok (if ok then .tuple #[z, .bool false] else z) W := by
  rcases hmv with ⟨rfl, rfl⟩ | ⟨r, c, rfl, hr⟩
  · simp only [Instr.lookup, Sem.run_bind, run_underlying hu, Result.andThen_ok, Sem.run_pure, hck, hfk, hz]
  · simp only [Instr.lookup, Sem.run_bind, run_underlying hu, Result.andThen_ok, Sem.run_pure, run_getObj_map hr, hck, hfk, hz]

theorem alookup_rel (R : Rel P w0 ρ H W) {t : TypeId} {m m' k k' v : Value} {ok : Bool} (h : alookup P H t m k ok = some v) (hm : cv ρ m = some m') (hk : cv ρ k = some k') :
    ∃ v', cv ρ v = some v' ∧ (Instr.lookup t m' k' ok).run P W = .ok v' W := by
  unfold alookup at h
  split at h
  · rename_i kt et hu
    have fin : ∀ (es : List MapEntry) (ES : Array MapEntry) (mv : Value) (hES : cvEs ρ es ES.toList)
        (hmv : MapIs W mv ES)
        (h : (match afind P kt k es es.isEmpty with | some (some (_, v)) => some (if ok then .tuple #[v, .bool true] else v) | some none => (azero P et).map (fun z => if ok then .tuple #[z, .bool false] else z) | none => none) = some v),
        ∃ v', cv ρ v = some v' ∧ (Instr.lookup t mv k' ok).run P W = .ok v' W := by
      intro es ES mv hES hmv h
      cases hf : afind P kt k es es.isEmpty with
      | none => rw [hf] at h; cases h
      | some r =>
        obtain ⟨rfl, ⟨u, hck⟩, _, r', h1, h2⟩ := afind_rel hf hk hES
        have he : ES.isEmpty = es.isEmpty := by have := cvEs_isEmpty hES; simpa using this
        have hck' : (Instr.checkKey ES.isEmpty 10000 kt k').run P W = .ok u W := by rw [he]; exact pv_run hck W
        have hfk : (Instr.findKey kt k' ES.toList).run P W = .ok r' W := pv_run h1 W
        rw [hf] at h
        rcases h2 with ⟨rfl, rfl⟩ | ⟨j, x, x', rfl, rfl, hx⟩
        · simp only [Option.map_eq_some_iff] at h
          obtain ⟨z, hz, rfl⟩ := h
          have hzs := cv_scal ρ z (azero_zero hz).2
          refine ⟨_, ?_, lookup_none hu hmv hck' hfk (run_zero hz W)⟩
          cases ok
          · exact hzs
          · exact cv_tuple_mk (cvL_cons.2 ⟨_, _, hzs, by simp [cvL, cv], rfl⟩)
        · simp only [Option.some.injEq] at h
          subst h
          refine ⟨_, ?_, lookup_some hu hmv hck' hfk⟩
          cases ok
          · exact hx
          · exact cv_tuple_mk (cvL_cons.2 ⟨_, _, hx, by simp [cvL, cv], rfl⟩)
    dsimp only at h
    split at h
    · cases h
    · rename_i es hes
      split at hes
      · cases hes
        have := cv_map_none hm
        subst this
        exact fin [] #[] _ trivial (.inl ⟨rfl, rfl⟩) h
      · rename_i r
        obtain ⟨L, hL, rfl⟩ := cv_map_some hm
        split at hes
        · rename_i es' c hH
          cases hes
          obtain ⟨_, ES, h1, h2⟩ := R.obj _ _ _ hH hL
          exact fin es ES _ h2 (.inr ⟨_, _, rfl, h1⟩) h
        · cases hes
      · cases hes
  · cases h
end Go.Am
/- The abstract machine beside the model's: slices, addresses; every operation that only reads. -/
namespace Go.Am
variable {P : Program} {w0 : World} {ρ : Ren} {H : AH} {W : World} {n : Nat} {T : Fr} {a : Act}

theorem asize_cells {t : TypeId} {m : Nat} (h : asize P t = some m) : P.cellsOf t = m := by
  unfold asize at h
  unfold Program.cellsOf
  rw [h]
  rfl
theorem div_shift (S o l sz : Nat) : (S - (o + l * sz)) / sz = (S - o) / sz - l := by
  rcases Nat.eq_zero_or_pos sz with rfl | hp
  · simp
  · rw [← Nat.sub_sub, Nat.mul_comm]
    by_cases h : sz * l ≤ S - o
    · exact Nat.sub_mul_div _ _ _
    · have h1 : S - o - sz * l = 0 := by omega
      have h2 : (S - o) / sz < l := (Nat.div_lt_iff_lt_mul hp).2 (by rw [Nat.mul_comm]; omega)
      rw [h1, Nat.zero_div]
      omega

def ORel (ρ : Ren) : Option Value → Option Value → Prop
  | none, none => True
  | some x, some y => cv ρ x = some y
  | _, _ => False
theorem ORel.of (hT : RelT ρ n T a.tmps) {o : Option Operand} (h : ∀ x, o = some x → constOk x = true ∧ tmpOk n x = true) : ORel ρ (o.map (aev T)) (o.map a.eval) := by
  cases o with
  | none => trivial
  | some x => exact hT.ev (h x rfl).1 (h x rfl).2

theorem bound_run {x x' : Value} {y d r : Nat} {c : BoundsCode} (h : abound (some x) y d = some r) (hx : cv ρ x = some x') : (Instr.sliceBound x' y c).run P W = .ok r W := by
  unfold abound at h
  cases x <;> simp only at h <;> try (cases h; done)
  rename_i k i
  have := cv_int hx
  subst this
  split at h
  · rename_i hb
    cases h
    simp [Instr.sliceBound, asIntOf, hb]
  · cases h

theorem bounds_run {isS : Bool} {len cap m hh l : Nat} {lo hi mx lo' hi' mx' : Option Value} (hlo : ORel ρ lo lo') (hhi : ORel ρ hi hi') (hmx : ORel ρ mx mx') (h0 : (mx.isSome && hi.isNone) = false)
    (h1 : abound mx cap cap = some m) (h2 : abound hi m len = some hh) (h3 : abound lo hh 0 = some l) : (Instr.sliceBounds isS len cap lo' hi' mx').run P W = .ok (l, hh, m) W := by
  cases mx with
  | none =>
    cases mx' with
    | some _ => exact hmx.elim
    | none =>
      simp only [abound, Option.some.injEq] at h1
      subst h1
      cases hi with
      | none =>
        cases hi' with
        | some _ => exact hhi.elim
        | none =>
          simp only [abound, Option.some.injEq] at h2
          subst h2
          cases lo with
          | none =>
            cases lo' with
            | some _ => exact hlo.elim
            | none =>
              simp only [abound, Option.some.injEq] at h3
              subst h3
              simp [Instr.sliceBounds]
          | some x =>
            cases lo' with
            | none => exact hlo.elim
            | some x' => simp [Instr.sliceBounds, bound_run h3 hlo]
      | some y =>
        cases hi' with
        | none => exact hhi.elim
        | some y' =>
          cases lo with
          | none =>
            cases lo' with
            | some _ => exact hlo.elim
            | none =>
              simp only [abound, Option.some.injEq] at h3
              subst h3
              simp [Instr.sliceBounds, bound_run h2 hhi]
          | some x =>
            cases lo' with
            | none => exact hlo.elim
            | some x' => simp [Instr.sliceBounds, bound_run h3 hlo, bound_run h2 hhi]
  | some z =>
    cases mx' with
    | none => exact hmx.elim
    | some z' =>
      cases hi with
      | none => simp at h0
      | some y =>
        cases hi' with
        | none => exact hhi.elim
        | some y' =>
          cases lo with
          | none =>
            cases lo' with
            | some _ => exact hlo.elim
            | none =>
              simp only [abound, Option.some.injEq] at h3
              subst h3
              simp [Instr.sliceBounds, bound_run h2 hhi, bound_run h1 hmx]
          | some x =>
            cases lo' with
            | none => exact hlo.elim
            | some x' => simp [Instr.sliceBounds, bound_run h3 hlo, bound_run h2 hhi, bound_run h1 hmx]

/- what asliceExact tells -/
theorem exact_parts {size : Nat} {b : Addr} {len cap : Nat} {lo hi mx : Option Value} {sp : Option Nat} {v : Value} (h : asliceExact size b len cap lo hi mx sp = some v) :
    ∃ m hh l, (mx.isSome && hi.isNone) = false ∧ abound mx cap cap = some m ∧ abound hi m len = some hh ∧ abound lo hh 0 = some l ∧
      v = .slice (some (if m = l then ⟨b.block, b.off, sp⟩ else ⟨b.block, b.off + l * size, sp⟩)) (hh - l) (m - l) := by
  unfold asliceExact at h
  split at h
  · cases h
  · rename_i h0
    split at h
    · cases h
    · rename_i m h1
      split at h
      · cases h
      · rename_i hh h2
        split at h
        · cases h
        · rename_i l h3
          cases h
          exact ⟨m, hh, l, by simpa only [Bool.not_eq_true] using h0, h1, h2, h3, rfl⟩

theorem abound_le {x : Option Value} {y d r : Nat} (h : abound x y d = some r) : r = d ∨ r ≤ y := by
  unfold abound at h
  split at h
  · cases h; exact .inl rfl
  · split at h
    · rename_i hb; cases h; right; omega
    · cases h
  · cases h

theorem add_ite (B off l size m : Nat) : (if m = l then (⟨B, off, none⟩ : Addr) else (⟨B, off, none⟩ : Addr).add (l * size)) = ⟨B, if m = l then off else off + l * size, none⟩ := by
  split
  · rfl
  · rw [add_plain]

theorem slice_run_slice {t e : TypeId} {size B off len cap m hh l : Nat} {lo hi mx : Option Value} {W : World} (hu : P.underlying t = some (.slice e)) (hs : asize P e = some size)
    (hb : (Instr.sliceBounds true len cap lo hi mx).run P W = .ok (l, hh, m) W) :
    (Instr.sliceAt t (.slice (some ⟨B, off, none⟩) len cap) lo hi mx).run P W = .ok (.slice (some ⟨B, if m = l then off else off + l * size, none⟩) (hh - l) (m - l)) W := by
  have hsz : (sizeOf e).run P W = .ok size W := pv_run (by rw [pv_sizeOf, hs]) W
  simp only [Instr.sliceAt, Instr.slice, Sem.run_bind, run_underlying hu, Result.andThen_ok, hb, hsz, Sem.run_pure, Option.map_some]
  rw [← add_ite]
  split <;> rfl

theorem slice_run_array {t e : TypeId} {size B off k m hh l : Nat} {lo hi mx : Option Value} {W : World} (hu : P.underlying t = some (.array k e)) (hs : asize P e = some size)
    (hb : (Instr.sliceBounds false k k lo hi mx).run P W = .ok (l, hh, m) W) :
    (Instr.sliceAt t (.pointer (some ⟨B, off, none⟩)) lo hi mx).run P W = .ok (.slice (some ⟨B, if m = l then off else off + l * size, none⟩) (hh - l) (m - l)) W := by
  have hsz : (sizeOf e).run P W = .ok size W := pv_run (by rw [pv_sizeOf, hs]) W
  simp only [Instr.sliceAt, Instr.sureAddr, Sem.run_bind, run_underlying hu, Result.andThen_ok, hb, hsz, Sem.run_pure]
  rw [← add_ite]

theorem aslice_rel (R : Rel P w0 ρ H W) {t : TypeId} {x x' v : Value} {lo hi mx lo' hi' mx' : Option Value} (hlo : ORel ρ lo lo') (hhi : ORel ρ hi hi') (hmx : ORel ρ mx mx') (h : aslice P H t x lo hi mx = some v) (hx : cv ρ x = some x') :
    ∃ v', cv ρ v = some v' ∧ (Instr.sliceAt t x' lo' hi' mx').run P W = .ok v' W := by
  unfold aslice at h
  split at h
  · -- a string
    rename_i s hu
    have := cv_string hx
    subst this
    split at h
    · cases h
    · rename_i hm
      have hmn : mx = none := by cases mx <;> simp at hm ⊢
      subst hmn
      cases mx' with
      | some _ => exact hmx.elim
      | none =>
        split at h
        · cases h
        · rename_i hh h2
          split at h
          · cases h
          · rename_i l h3
            cases h
            have hb := bounds_run (P := P) (W := W) (isS := false) (len := s.size) (cap := s.size) (m := s.size) hlo hhi (mx := none) (mx' := none) trivial rfl rfl h2 h3
            exact ⟨_, rfl, by simp [Instr.sliceAt, Instr.slice, run_underlying hu, hb]⟩
  · -- an array behind a pointer
    rename_i k e b hu
    have arr : ∀ {size : Nat} {sp : Option Nat} (hsz : asize P e = some size) (h : (if mx.isSome then none else asliceExact size b k k lo hi none sp) = some v)
        (hsp : ∀ c, cvAddr ρ b = some c → c = ⟨c.block, b.off, none⟩ ∧ ∀ o m q, cv ρ (.slice (some ⟨b.block, o, sp⟩) m q) = some (.slice (some ⟨c.block, o, none⟩) m q)),
        ∃ v', cv ρ v = some v' ∧ (Instr.sliceAt t x' lo' hi' mx').run P W = .ok v' W := by
      intro size sp hsz hq hsp
      clear h
      split at hq
      · cases hq
      · rename_i hm
        have hmn : mx = none := by cases mx <;> simp at hm ⊢
        subst hmn
        cases mx' with
        | some _ => exact hmx.elim
        | none =>
          obtain ⟨m, hh, l, h0, h1, h2, h3, rfl⟩ := exact_parts hq
          obtain ⟨c, rfl, hc⟩ := cv_ptr_some hx
          obtain ⟨e1, e2⟩ := hsp c hc
          have hb := bounds_run (P := P) (W := W) (isS := false) (len := k) (cap := k) (m := m) hlo hhi (mx := none) (mx' := none) trivial rfl h1 h2 h3
          rw [e1]
          refine ⟨_, ?_, slice_run_array hu hsz hb⟩
          rw [← e2 (if m = l then b.off else b.off + l * size) (hh - l) (m - l)]
          congr 2
          split <;> rfl
    split at h
    · rename_i size hsz hsp
      refine arr hsz h fun c hc => ?_
      simp only [cvAddr, hsp, Option.map_eq_some_iff] at hc
      obtain ⟨L, hL, rfl⟩ := hc
      exact ⟨rfl, fun o m q => by simp [cv, cvSlice, hL]⟩
    · rename_i size hsz hsp
      refine arr hsz h fun c hc => ?_
      simp only [cvAddr, hsp, Option.some.injEq] at hc
      subst hc
      exact ⟨rfl, fun o m q => by simp [cv, cvSlice]⟩
    · cases h
  · -- nil
    rename_i e hu
    have := cv_slice_none hx
    subst this
    split at h
    · cases h
    · rename_i hm
      rw [Bool.or_eq_true, not_or] at hm
      obtain ⟨hm, hss⟩ := hm
      have hmn : mx = none := by cases mx <;> simp at hm ⊢
      subst hmn
      cases mx' with
      | some _ => exact hmx.elim
      | none =>
        split at h
        · cases h
        · rename_i hh h2
          split at h
          · cases h
          · rename_i l h3
            cases h
            have hb := bounds_run (P := P) (W := W) (isS := true) (len := 0) (cap := 0) (m := 0) hlo hhi (mx := none) (mx' := none) trivial rfl rfl h2 h3
            have hh0 : hh = 0 := by rcases abound_le h2 with h | h <;> omega
            have hl0 : l = 0 := by rcases abound_le h3 with h | h <;> omega
            subst hh0 hl0
            cases hsz : asize P e with
            | none => simp [hsz] at hss
            | some size =>
              have hsr : (sizeOf e).run P W = .ok size W := pv_run (by rw [pv_sizeOf, hsz]) W
              exact ⟨_, rfl, by simp [Instr.sliceAt, Instr.slice, run_underlying hu, hb, hsr]⟩
  · -- a slice
    rename_i e b len cap hu
    split at h
    · cases h
    · rename_i size hsz
      have exact_case : ∀ {sp : Option Nat} {c : Nat} {B off : Nat} (h : asliceExact size b len c lo hi mx sp = some v) (hx' : x' = .slice (some ⟨B, off, none⟩) len c) (hsp : ∀ o m c, cv ρ (.slice (some ⟨b.block, o, sp⟩) m c) = some (.slice (some ⟨B, o, none⟩) m c)) (hoff : off = b.off),
          ∃ v', cv ρ v = some v' ∧ (Instr.sliceAt t x' lo' hi' mx').run P W = .ok v' W := by
        intro sp c B off h hx' hsp hoff
        subst hoff
        obtain ⟨m, hh, l, h0, h1, h2, h3, rfl⟩ := exact_parts h
        have hb := bounds_run (P := P) (W := W) (isS := true) hlo hhi hmx h0 h1 h2 h3
        subst hx'
        refine ⟨_, ?_, slice_run_slice hu hsz hb⟩
        have := hsp (if m = l then b.off else b.off + l * size) (hh - l) (m - l)
        rw [← this]
        congr 2
        split <;> rfl
      split at h
      · rename_i hs
        have hx2 := hx
        simp only [cv, cvSlice, hs, Option.some.injEq] at hx2
        exact exact_case h hx2.symm (fun o m q => by simp [cv, cvSlice]) rfl
      · rename_i hs
        have hx2 := hx
        simp only [cv, cvSlice, hs] at hx2
        split at hx2
        · cases hx2
        · rename_i L hL
          simp only [Option.some.injEq] at hx2
          exact exact_case h hx2.symm (fun o m q => by simp [cv, cvSlice, hL]) rfl
      · rename_i hs
        have hx2 := hx
        simp only [cv, cvSlice, hs] at hx2
        split at hx2
        · cases hx2
        · rename_i L hL
          split at h
          · rename_i cs e' hH
            obtain ⟨_, _, _, _, _, hg, _⟩ := R.row hH hL
            simp at hg
            rw [hg.1] at hx2
            simp only [Option.some.injEq] at hx2
            exact exact_case h hx2.symm (fun o m q => by simp [cv, cvSlice, hL, hg.1]) rfl
          · rename_i cs e' hH
            obtain ⟨C, fr, _, _, _, hg, _⟩ := R.row hH hL
            simp at hg
            rw [hg] at hx2
            simp only at hx2
            split at hx2
            · rename_i hle
              simp only [Option.some.injEq] at hx2
              subst hx2
              split at h
              · split at h
                · rename_i hmS hhS
                  obtain ⟨m, hh, l, h0, h1, h2, h3, rfl⟩ := exact_parts h
                  -- the capacity that is told lies within the length
                  cases mx with
                  | none => simp at hmS
                  | some z =>
                    cases mx' with
                    | none => exact hmx.elim
                    | some z' =>
                      have h1' : abound (some z) ((C.size - b.off) / P.cellsOf e') ((C.size - b.off) / P.cellsOf e') = some m := by
                        unfold abound at h1 ⊢
                        cases z <;> simp only at h1 ⊢ <;> try (cases h1; done)
                        rename_i k i
                        split at h1
                        · rename_i hb; rw [if_pos (by omega)]; exact h1
                        · cases h1
                      have h2' : abound hi m len = some hh := h2
                      have hb := bounds_run (P := P) (W := W) (isS := true) hlo hhi (mx := some z) (mx' := some z') hmx h0 h1' h2' h3
                      refine ⟨_, ?_, slice_run_slice hu hsz hb⟩
                      have : ∀ o m q, cv ρ (.slice (some ⟨b.block, o, some 2⟩) m q) = some (.slice (some ⟨L.blk, o, none⟩) m q) := fun o m q => by simp [cv, cvSlice, hL]
                      rw [← this]
                      congr 2
                      split <;> rfl
                · cases h
              · rename_i hmS
                have hmn : mx = none := by cases mx <;> simp at hmS ⊢
                subst hmn
                cases mx' with
                | some _ => exact hmx.elim
                | none =>
                  split at h
                  · cases h
                  rename_i hsz2
                  have hce : P.cellsOf e' = size := asize_cells (by simpa using hsz2)
                  split at h
                  · cases h
                  · rename_i hh h2
                    split at h
                    · cases h
                    · rename_i l h3
                      have hhl : hh ≤ len := by rcases abound_le h2 with h | h <;> omega
                      have hlh : l ≤ hh := by rcases abound_le h3 with h | h <;> omega
                      have h2' : abound hi ((C.size - b.off) / P.cellsOf e') len = some hh := by
                        cases hi with
                        | none => exact h2
                        | some y =>
                          unfold abound at h2 ⊢
                          cases y <;> simp only at h2 ⊢ <;> try (cases h2; done)
                          rename_i k i
                          split at h2
                          · rename_i hb; rw [if_pos (by omega)]; exact h2
                          · cases h2
                      have hb := bounds_run (P := P) (W := W) (isS := true) (len := len) (cap := (C.size - b.off) / P.cellsOf e') (m := (C.size - b.off) / P.cellsOf e') hlo hhi (mx := none) (mx' := none) trivial rfl rfl h2' h3
                      have hrun := slice_run_slice (B := L.blk) (off := b.off) hu hsz hb
                      have hdiv := div_shift (C.size) b.off l size
                      rw [hce] at hle hrun hg ⊢
                      obtain ⟨m, hm⟩ : ∃ m, m = (C.size - b.off) / size := ⟨_, rfl⟩
                      rw [← hm] at hle hrun hdiv ⊢
                      split at h
                      · rename_i hl0
                        subst hl0
                        cases h
                        refine ⟨_, ?_, hrun⟩
                        simp only [cv, cvSlice, hs, hL, hg, ← hm]
                        rw [if_pos (by omega)]
                        simp
                      · split at h
                        · rename_i hl0 hll
                          cases h
                          refine ⟨_, ?_, hrun⟩
                          simp only [cv, cvSlice, hL, hg]
                          rw [hdiv, if_neg (show ¬ m = l by omega), if_pos (by omega)]
                        · rename_i hl0 hll
                          cases h
                          refine ⟨_, ?_, hrun⟩
                          simp only [cv, cvSlice, hL, hg, ← hm]
                          rw [if_neg (by omega)]
                          have e1 : hh - l = 0 := by omega
                          rw [e1]
                          by_cases e2 : m = l
                          · rw [if_pos e2, if_pos e2, e2, Nat.sub_self]
                          · rw [if_neg e2, if_neg e2]
            · cases hx2
          · cases h
      · cases h
  · cases h
end Go.Am
/- The abstract machine beside the model's: every operation that only reads; those that make one new object. -/
namespace Go.Am
variable {P : Program} {w0 : World} {ρ : Ren} {H : AH} {W : World} {n : Nat} {T : Fr} {a : Act}

theorem cvAddr_form {b c : Addr} (h : cvAddr ρ b = some c) : c = ⟨c.block, b.off, none⟩ ∧ ∀ o, cvAddr ρ ⟨b.block, o, b.spot⟩ = some ⟨c.block, o, none⟩ := by
  unfold cvAddr at *
  split at h
  · rename_i hs
    rw [Option.map_eq_some_iff] at h
    obtain ⟨L, hL, rfl⟩ := h
    exact ⟨rfl, fun o => by simp [hs, hL]⟩
  · rename_i hs
    cases h
    exact ⟨rfl, fun o => by simp [hs]⟩
  · cases h

theorem aindexAddr_rel {t : TypeId} {x i x' i' v : Value} (h : aindexAddr P t x i = some v) (hx : cv ρ x = some x') (hi : cv ρ i = some i') : ∃ v', cv ρ v = some v' ∧ (Instr.indexAt t x' i').run P W = .ok v' W := by
  unfold aindexAddr at h
  split at h
  · rename_i k i
    have := cv_int hi
    subst this
    split at h
    · rename_i len e b hu
      obtain ⟨c, rfl, hc⟩ := cv_ptr_some hx
      obtain ⟨e1, e2⟩ := cvAddr_form hc
      split at h
      · rename_i size hsz
        split at h
        · rename_i hb
          cases h
          refine ⟨.pointer (some ⟨c.block, b.off + i.toNat * size, none⟩), by simp [cv, aadd, e2], ?_⟩
          have hsr : (sizeOf e).run P W = .ok size W := pv_run (by rw [pv_sizeOf, hsz]) W
          rw [e1]
          simp [Instr.indexAt, asIntOf, run_underlying hu, Instr.sureAddr, hb, hsr, add_plain]
        · cases h
      · cases h
    · rename_i e b m c hu
      have fin : ∀ {size : Nat} {d : Addr} {c' : Nat} {sp : Option Nat} (hsz : asize P e = some size) (hx' : x' = .slice (some ⟨d.block, b.off, none⟩) m c') (hv : (if 0 ≤ i ∧ i < m then some (Value.pointer (some ⟨b.block, b.off + i.toNat * size, sp⟩)) else none) = some v)
          (hsp : ∀ o, cvAddr ρ ⟨b.block, o, sp⟩ = some ⟨d.block, o, none⟩), ∃ v', cv ρ v = some v' ∧ (Instr.indexAt t x' (.int k i)).run P W = .ok v' W := by
        intro size d c' sp hsz hx' hv hsp
        split at hv
        · rename_i hb
          cases hv
          refine ⟨.pointer (some ⟨d.block, b.off + i.toNat * size, none⟩), by simp [cv, hsp], ?_⟩
          have hsr : (sizeOf e).run P W = .ok size W := pv_run (by rw [pv_sizeOf, hsz]) W
          rw [hx']
          simp [Instr.indexAt, asIntOf, run_underlying hu, hb, hsr, add_plain]
        · cases hv
      split at h
      · rename_i size hsz hs
        obtain ⟨d, c', rfl, hd⟩ := cvSlice_addr hx (by rw [hs]; simp)
        rcases hd with ⟨hd, _⟩ | ⟨hd, _⟩
        · rw [Option.map_eq_some_iff] at hd
          obtain ⟨L, hL, rfl⟩ := hd
          exact fin (d := ⟨L.blk, b.off, none⟩) (sp := b.spot) hsz rfl h (fun o => by simp [cvAddr, hs, hL])
        · rw [hs] at hd; cases hd
      · rename_i size hsz hs
        obtain ⟨d, c', rfl, hd⟩ := cvSlice_addr hx (by rw [hs]; simp)
        rcases hd with ⟨_, hd | hd⟩ | ⟨_, rfl⟩
        · rw [hs] at hd; cases hd
        · rw [hs] at hd; cases hd
        · exact fin (d := ⟨b.block, b.off, none⟩) (sp := b.spot) hsz rfl h (fun o => by simp [cvAddr, hs])
      · rename_i size hsz hs
        obtain ⟨d, c', rfl, hd⟩ := cvSlice_addr hx (by rw [hs]; simp)
        rcases hd with ⟨hd, _⟩ | ⟨hd, _⟩
        · rw [Option.map_eq_some_iff] at hd
          obtain ⟨L, hL, rfl⟩ := hd
          exact fin (d := ⟨L.blk, b.off, none⟩) hsz rfl h (fun o => by simp [cvAddr, hL])
        · rw [hs] at hd; cases hd
      · cases h
    · cases h
  · cases h

theorem afieldAddr_rel {s : TypeId} {x x' v : Value} {f : Nat} (h : afieldAddr P s x f = some v) (hx : cv ρ x = some x') : ∃ v', cv ρ v = some v' ∧ (Instr.fieldAt s x' f).run P W = .ok v' W := by
  unfold afieldAddr at h
  split at h
  · rename_i b fs hu
    obtain ⟨c, rfl, hc⟩ := cv_ptr_some hx
    obtain ⟨e1, e2⟩ := cvAddr_form hc
    split at h
    · rename_i fd hf
      split at h
      · rename_i m hsz
        cases h
        refine ⟨.pointer (some ⟨c.block, b.off + fd.offset, none⟩), by simp [cv, aadd, e2], ?_⟩
        have hsr : (sizeOf fd.type).run P W = .ok (m + 1) W := pv_run (by rw [pv_sizeOf, hsz]) W
        rw [e1]
        simp [Instr.fieldAt, run_underlying hu, Instr.sureAddr, hf, fieldPlace, hsr, add_plain]
      · cases h
    · cases h
  · cases h

theorem cvL_scalAll : ∀ {l l' : List Value}, l.all scal = true → cvL ρ l = some l' → l' = l
  | [], l', _, h => by simp only [cvL, Option.some.injEq] at h; exact h.symm
  | v :: r, l', hs, h => by
    rw [List.all_cons, Bool.and_eq_true] at hs
    obtain ⟨x, y, hx, hy, rfl⟩ := cvL_cons.1 h
    rw [cv_scal ρ v hs.1, Option.some.injEq] at hx
    rw [hx, cvL_scalAll hs.2 hy]

theorem args_rel (hT : RelT ρ n T a.tmps) : ∀ (l : List Operand), (∀ x ∈ l, constOk x = true ∧ tmpOk n x = true) → cvL ρ (l.map (aev T)) = some (l.map a.eval)
  | [], _ => rfl
  | x :: r, h => cvL_cons.2 ⟨_, _, hT.ev (h x (by simp)).1 (h x (by simp)).2, args_rel hT r (fun y hy => h y (by simp [hy])), rfl⟩

theorem operOk_ops {o : Oper} (h : operOk n o = true) : ∀ x ∈ o.op.operands.toList, constOk x = true ∧ tmpOk n x = true := by
  unfold operOk at h
  rw [Bool.and_eq_true, List.all_eq_true] at h
  intro x hx
  have := h.1 x hx
  rwa [Bool.and_eq_true] at this
theorem operOk_dst {o : Oper} (h : operOk n o = true) : (match o.dst with | some d => decide (d < n) | none => true) = true := by
  unfold operOk at h
  rw [Bool.and_eq_true] at h
  exact h.2

theorem find_rel (stamp : Nat) : ∀ {l m : List MapEntry} {e : MapEntry}, cvEs ρ l m → l.find? (fun e => e.born == stamp) = some e → ∃ E, m.find? (fun e => e.born == stamp) = some E ∧ cvE ρ e E
  | [], [], _, _, h => by cases h
  | [], _ :: _, _, h, _ => h.elim
  | _ :: _, [], _, h, _ => h.elim
  | x :: r, y :: s, e, h, hf => by
    rw [List.find?_cons] at hf ⊢
    rw [← h.1.2.2]
    cases hq : x.born == stamp with
    | true => rw [hq] at hf; cases hf; exact ⟨y, rfl, h.1⟩
    | false => rw [hq] at hf; exact find_rel stamp h.2 hf
theorem aentry_rel (R : Rel P w0 ρ H W) {it it' v : Value} (h : aentry H it = some v) (hi : cv ρ it = some it') : ∃ v', cv ρ v = some v' ∧ (Instr.entry it').run P W = .ok v' W := by
  unfold aentry at h
  split at h
  · rename_i r
    obtain ⟨c, rfl, hc⟩ := cv_ptr_some hi
    simp only [cvAddr, Option.map_eq_some_iff] at hc
    obtain ⟨L, hL, rfl⟩ := hc
    split at h
    · rename_i m since seen last hH
      obtain ⟨hg, M, ⟨K, hK, rfl⟩, hW⟩ := R.obj r _ L hH hL
      split at h
      · rename_i es clk stamp hm hs
        split at h
        · rename_i hq
          subst hq
          obtain ⟨hg2, ES, hWm, hes⟩ := R.obj m _ K hm hK
          rw [Option.map_eq_some_iff] at h
          obtain ⟨e, he, rfl⟩ := h
          obtain ⟨E, hE, hk, hv, hb⟩ := find_rel stamp hes he
          refine ⟨.tuple #[E.key, E.val], cv_tuple_mk (cvL_cons.2 ⟨_, _, hk, cvL_cons.2 ⟨_, _, hv, rfl, rfl⟩, rfl⟩), ?_⟩
          have hE' : ES.find? (fun e => e.born == stamp) = some E := by rw [← Array.find?_toList]; exact hE
          have hs' : seen.toArray.back? = some stamp := by rw [List.back?_toArray]; exact hs
          simp [Instr.entry, getObj, Sem.run, hW, hWm, hs', hE']
        · cases h
      · cases h
    · cases h
  · cases h
theorem aread_rel (R : Rel P w0 ρ H W) (hT : RelT ρ n T a.tmps) {o : Oper} (hok : operOk n o = true) {v : Value} (h : aread P w0 o T H = some v) :
    ∃ v', cv ρ v = some v' ∧ (execOp a.eval o).run P W = .ok (.value v') W := by
  have hop := operOk_ops hok
  have ev : ∀ x, x ∈ o.op.operands.toList → cv ρ (aev T x) = some (a.eval x) := fun x hx => hT.ev (hop x hx).1 (hop x hx).2
  obtain ⟨dst, op, ty, pos, after, guard⟩ := o
  unfold aread at h
  cases op <;> simp only [Op.operands] at h ev hop <;> try (cases h; done)
  case move x => cases h; exact ⟨_, ev x (by simp), by simp [execOp]⟩
  case assign x => cases h; exact ⟨_, ev x (by simp), by simp [execOp]⟩
  case pick c x y =>
    have hc := ev c (by simp)
    split at h
    · rename_i b hb
      rw [hb] at hc
      have hc := cv_bool hc
      cases h
      cases b
      · exact ⟨_, ev y (by simp), by simp [execOp, hc, asBool]⟩
      · exact ⟨_, ev x (by simp), by simp [execOp, hc, asBool]⟩
    · cases h
  case build t parts =>
    split at h
    · rename_i hz
      have hp : PRel ρ (parts.map fun (i, x) => (i, aev T x)).toList (parts.map fun (i, x) => (i, a.eval x)).toList := by
        rw [Array.toList_map, Array.toList_map]
        refine PRel.of hT _ (fun p hp => hop p.2 (by simp; exact ⟨p.1, by simpa using hp⟩))
      obtain ⟨v', h1, h2⟩ := build_rel hp (fun z hz' => by
        cases hq : azero P t with
        | none => rw [hq] at hz; cases hz
        | some z' => obtain ⟨e1, e2⟩ := azero_zero hq; rw [e1] at hz'; cases hz'; exact e2) h
      exact ⟨v', h1, by simp only [execOp, Sem.run_bind, pv_run h2 W, Result.andThen_ok, Sem.run_pure]⟩
    · cases h
  case load t x =>
    obtain ⟨b, v', h1, h2, h3⟩ := aload_rel R h (ev x (by simp))
    exact ⟨v', h2, by simp [execOp, h1, Instr.loadAt, Instr.sureAddr, h3]⟩
  case nilCheck x =>
    have hx := ev x (by simp)
    split at h
    · rename_i b hb
      rw [hb] at hx
      cases h
      obtain ⟨c, hc, hcv⟩ := cv_ptr_some hx
      exact ⟨.pointer (some c), by simp [cv, hcv], by simp [execOp, hc]⟩
    · rename_i f y z hb
      rw [hb] at hx
      cases h
      obtain ⟨fn', y', z', hc, hf, _, _⟩ := cv_func hx
      simp only [cvFn, Option.some.injEq] at hf
      subst hf
      exact ⟨_, hx, by simp [execOp, hc]⟩
    · rename_i f y z hb
      rw [hb] at hx
      cases h
      obtain ⟨fn', y', z', hc, hf, _, _⟩ := cv_func hx
      simp only [cvFn, Option.map_eq_some_iff] at hf
      obtain ⟨L, _, hf⟩ := hf
      subst hf
      exact ⟨_, hx, by simp [execOp, hc]⟩
    · cases h
  case binOp op t x y yt =>
    obtain ⟨v', h1, h2⟩ := abin_rel h (ev x (by simp)) (ev y (by simp)) (W := W)
    exact ⟨v', h1, by simp only [execOp, Sem.run_bind] at h2 ⊢; rw [h2]; rfl⟩
  case unOp op t x =>
    have hx := ev x (by simp)
    split at h
    · rename_i hs
      obtain ⟨h1, h2⟩ := onlyScal_some h
      rw [cv_scal ρ _ hs, Option.some.injEq] at hx
      exact ⟨v, cv_scal ρ v h2, by rw [hx] at h1; simp only [execOp, Sem.run_bind, pv_run h1 W, Result.andThen_ok, Sem.run_pure]⟩
    · cases h
  case convert s d x =>
    obtain ⟨v', h1, h2⟩ := aconvR_rel R h (ev x (by simp))
    exact ⟨v', h1, by simp only [execOp, Sem.run_bind, h2, Result.andThen_ok, Sem.run_pure]⟩
  case makeInterface t x =>
    split at h
    · cases h
    · rename_i d hu _
      cases h
      refine ⟨.iface t (a.eval x), by simp [cv, ev x (by simp)], ?_⟩
      cases d <;> first | (exfalso; simp_all; done) | simp [execOp, Instr.makeInterface, run_underlying (show P.underlying t = some _ by assumption)]
    · cases h
  case makeFunc fn first cap =>
    cases fn <;> simp only at h <;> try (cases h; done)
    rename_i f
    cases h
    refine ⟨.func (.func f) (first.map a.eval) (cap.map a.eval), ?_, by simp [execOp, Instr.makeFunc]⟩
    have h1 := args_rel hT first.toList (fun x hx => hop x (by simp at hx ⊢; exact .inl hx))
    have h2 := args_rel hT cap.toList (fun x hx => hop x (by simp at hx ⊢; exact .inr hx))
    rw [← Array.toList_map, ← Array.toList_map] at h1 h2
    generalize first.map (aev T) = x1 at *
    generalize cap.map (aev T) = x2 at *
    generalize first.map a.eval = y1 at *
    generalize cap.map a.eval = y2 at *
    obtain ⟨x1⟩ := x1
    obtain ⟨x2⟩ := x2
    simp only [cv, cvFn, h1, h2]
  case slice t x lo hi mx =>
    obtain ⟨v', h1, h2⟩ := aslice_rel R (ORel.of hT (o := lo) (fun y hy => hop y (by subst hy; simp))) (ORel.of hT (o := hi) (fun y hy => hop y (by subst hy; simp))) (ORel.of hT (o := mx) (fun y hy => hop y (by subst hy; simp))) h (ev x (by simp))
    exact ⟨v', h1, by simp only [execOp, Sem.run_bind, h2, Result.andThen_ok, Sem.run_pure]⟩
  case fieldAddr s x f =>
    obtain ⟨v', h1, h2⟩ := afieldAddr_rel h (ev x (by simp)) (W := W)
    exact ⟨v', h1, by simp only [execOp, Sem.run_bind, h2, Result.andThen_ok, Sem.run_pure]⟩
  case field t x f =>
    obtain ⟨v', h1, h2⟩ := field_rel h (ev x (by simp))
    exact ⟨v', h1, by simp only [execOp, Sem.run_bind, pv_run h2 W, Result.andThen_ok, Sem.run_pure]⟩
  case indexAddr t x i =>
    obtain ⟨v', h1, h2⟩ := aindexAddr_rel h (ev x (by simp)) (ev i (by simp)) (W := W)
    exact ⟨v', h1, by simp only [execOp, Sem.run_bind, h2, Result.andThen_ok, Sem.run_pure]⟩
  case index t x i =>
    obtain ⟨v', h1, h2⟩ := index_rel h (ev x (by simp)) (ev i (by simp))
    exact ⟨v', h1, by simp only [execOp, Sem.run_bind, pv_run h2 W, Result.andThen_ok, Sem.run_pure]⟩
  case lookup t x k ok =>
    obtain ⟨v', h1, h2⟩ := alookup_rel R h (ev x (by simp)) (ev k (by simp))
    exact ⟨v', h1, by simp only [execOp, Sem.run_bind, h2, Result.andThen_ok, Sem.run_pure]⟩
  case extract x i =>
    obtain ⟨v', h1, h2⟩ := extract_rel h (ev x (by simp))
    exact ⟨v', h1, by simp only [execOp, Sem.run_bind, pv_run h2 W, Result.andThen_ok, Sem.run_pure]⟩
  case entry it =>
    obtain ⟨v', h1, h2⟩ := aentry_rel R h (ev it (by simp))
    exact ⟨v', h1, by simp [execOp, h2]⟩
  case call c =>
    obtain ⟨callee, args, argTypes⟩ := c
    cases callee <;> simp only at h <;> try (cases h; done)
    rename_i b
    have hargs := args_rel hT args.toList (fun x hx => hop x (by simp [Call.operands]; simpa using hx))
    rw [← Array.toList_map, ← Array.toList_map] at hargs
    have hl : (⟨(args.map a.eval).toList⟩ : Array Value) = args.map a.eval := rfl
    cases b <;> simp only at h <;> try (cases h; done)
    · obtain ⟨v', h1, h2⟩ := acap_rel (ty := ty) R h hargs
      exact ⟨v', h1, by simp [execOp, resolve, invoke, builtin, h2]⟩
    · obtain ⟨v', h1, h2⟩ := alen_rel (ty := ty) R h hargs
      exact ⟨v', h1, by simp [execOp, resolve, invoke, builtin, h2]⟩
    · split at h
      · rename_i hs
        obtain ⟨h1, h2⟩ := onlyScal_some h
        have e := cvL_scalAll hs hargs
        have e : args.map a.eval = args.map (aev T) := Array.toList_inj.1 e
        rw [← e] at h1
        exact ⟨v, cv_scal ρ v h2, by simp [execOp, resolve, invoke, builtin, pv_run h1 W]⟩
      · cases h
    · split at h
      · rename_i hs
        obtain ⟨h1, h2⟩ := onlyScal_some h
        have e := cvL_scalAll hs hargs
        have e : args.map a.eval = args.map (aev T) := Array.toList_inj.1 e
        rw [← e] at h1
        exact ⟨v, cv_scal ρ v h2, by simp [execOp, resolve, invoke, builtin, pv_run h1 W]⟩
      · cases h
end Go.Am
/- The abstract machine beside the model's: what one operation does to memory; those that make one new object. -/
namespace Go.Am
variable {P : Program} {w0 : World} {ρ ρ' : Ren} {H H' : AH} {W W' : World} {n : Nat} {T : Fr} {a : Act}

structure Step (P : Program) (w0 : World) (ρ ρ' : Ren) (H H' : AH) (W W' : World) : Prop where
  le : H.length ≤ H'.length
  out : ∀ i, i < H.length ∨ H'.length ≤ i → ρ' i = ρ i
  new : ∀ (i : Nat) (L : Loc), H.length ≤ i → i < H'.length → ρ' i = some L → W.heap.size ≤ L.blk ∨ ∃ (j : Nat) (o : AObj) (M : Loc), H[j]? = some o ∧ alive o ∧ ρ j = some M ∧ M.blk = L.blk
  dead : ∀ (i : Nat), H[i]? = some AObj.dead → H'[i]? = some AObj.dead
  rel : Rel P w0 ρ' H' W'
  size : W.heap.size ≤ W'.heap.size
  same : ∀ b, b < W.heap.size → (∀ (i : Nat) (o : AObj) (L : Loc), H[i]? = some o → alive o → ρ i = some L → L.blk ≠ b) → W'.heap[b]? = W.heap[b]?
  env : W'.tape = W.tape ∧ W'.os = W.os ∧ W'.output = W.output

def Fresh (ρ : Ren) (H H' : AH) : Prop := ∀ i, H.length ≤ i → i < H'.length → ρ i = none

theorem Step.mono (S : Step P w0 ρ ρ' H H' W W') (hf : Fresh ρ H H') : Le ρ ρ' := by
  intro i L h
  by_cases hi : i < H.length ∨ H'.length ≤ i
  · rw [S.out i hi]; exact h
  · rw [hf i (by omega) (by omega)] at h; cases h

theorem Step.refl (R : Rel P w0 ρ H W) : Step P w0 ρ ρ H H W W :=
  ⟨Nat.le_refl _, fun _ _ => rfl, fun i L h1 h2 => by omega, fun _ h => h, R, Nat.le_refl _, fun _ _ _ => rfl, rfl, rfl, rfl⟩

theorem Step.alive_back (S : Step P w0 ρ ρ' H H' W W') {i : Nat} {o : AObj} (hi : i < H.length) (ho : H'[i]? = some o) (ha : alive o) : ∃ q, H[i]? = some q ∧ alive q := by
  obtain ⟨q, hq⟩ : ∃ q, H[i]? = some q := ⟨H[i], List.getElem?_eq_getElem hi⟩
  refine ⟨q, hq, ?_⟩
  cases q <;> try trivial
  rw [S.dead i hq] at ho
  cases ho
  exact ha

theorem Step.trans {ρ1 ρ2 : Ren} {H1 H2 : AH} {W1 W2 : World} (S : Step P w0 ρ ρ1 H H1 W W1) (S' : Step P w0 ρ1 ρ2 H1 H2 W1 W2) : Step P w0 ρ ρ2 H H2 W W2 := by
  have back : ∀ (i : Nat) (o : AObj) (L : Loc), H1[i]? = some o → alive o → ρ1 i = some L → W.heap.size ≤ L.blk ∨ ∃ (j : Nat) (o : AObj) (M : Loc), H[j]? = some o ∧ alive o ∧ ρ j = some M ∧ M.blk = L.blk := by
    intro i o L h1 h2 h3
    by_cases hi : i < H.length
    · obtain ⟨q, hq, hqa⟩ := S.alive_back hi h1 h2
      exact .inr ⟨i, q, L, hq, hqa, by rw [← S.out i (.inl hi)]; exact h3, rfl⟩
    · refine S.new i L (by omega) ?_ h3
      exact (List.getElem?_eq_some_iff.1 h1).1
  refine ⟨Nat.le_trans S.le S'.le, fun i hi => ?_, fun i L h1 h2 h3 => ?_, fun i h => S'.dead i (S.dead i h), S'.rel, Nat.le_trans S.size S'.size, fun b hb hn => ?_, ?_⟩
  · rw [S'.out i (by have := S.le; have := S'.le; omega), S.out i (by have := S.le; have := S'.le; omega)]
  · by_cases hi : i < H1.length
    · rw [S'.out i (.inl hi)] at h3
      exact S.new i L h1 hi h3
    · rcases S'.new i L (by omega) h2 h3 with h | ⟨j, o, M, h4, h5, h6, h7⟩
      · exact .inl (Nat.le_trans S.size h)
      · rw [← h7]; exact back j o M h4 h5 h6
  · rw [S'.same b (Nat.lt_of_lt_of_le hb S.size) (fun i o L h1 h2 h3 h4 => ?_), S.same b hb hn]
    rcases back i o L h1 h2 h3 with h | ⟨j, q, M, h5, h6, h7, h8⟩
    · omega
    · exact hn j q M h5 h6 h7 (by rw [h8, h4])
  · exact ⟨S'.env.1.trans S.env.1, S'.env.2.1.trans S.env.2.1, S'.env.2.2.trans S.env.2.2⟩

theorem Fresh.left {H1 H2 : AH} (h : Fresh ρ H H2) (h2 : H1.length ≤ H2.length) : Fresh ρ H H1 := fun i a b => h i a (by omega)
theorem Fresh.right {ρ1 : Ren} {H1 H2 : AH} (h : Fresh ρ H H2) (S : Step P w0 ρ ρ1 H H1 W W') : Fresh ρ1 H1 H2 := fun i a b => by
  rw [S.out i (.inr a)]
  exact h i (by have := S.le; omega) b

theorem cvEs_mono (hl : Le ρ ρ') : ∀ {l m : List MapEntry}, cvEs ρ l m → cvEs ρ' l m
  | [], [], _ => trivial
  | [], _ :: _, h => h.elim
  | _ :: _, [], h => h.elim
  | e :: r, f :: s, h => ⟨⟨cv_mono hl _ _ h.1.1, cv_mono hl _ _ h.1.2.1, h.1.2.2⟩, cvEs_mono hl h.2⟩
theorem ObjRel.mono {o : AObj} {L : Loc} {ob : Option Obj} (hl : Le ρ ρ') (h : ObjRel P ρ o L ob) : ObjRel P ρ' o L ob := by
  cases o with
  | cells cs e g => obtain ⟨C, fr, h1, h2, h3, h4⟩ := h; exact ⟨C, fr, h1, h2, h3, cvL_mono hl _ _ h4⟩
  | map es c => obtain ⟨h0, ES, h1, h2⟩ := h; exact ⟨h0, ES, h1, cvEs_mono hl h2⟩
  | loop st pend n T ps as bd => obtain ⟨h0, l, h1, h2, h3, h4, h5⟩ := h; exact ⟨h0, l, h1, h2, h3, h4.mono hl, h5⟩
  | siter s pos => exact h
  | miter m since seen last =>
    obtain ⟨h0, M, h1, h2⟩ := h
    refine ⟨h0, M, ?_, h2⟩
    cases m with
    | none => exact h1
    | some i => obtain ⟨K, h3, h4⟩ := h1; exact ⟨K, hl i K h3, h4⟩
  | dead => trivial

def plus (ρ : Ren) (i : Nat) (L : Loc) : Ren := fun j => if j = i then some L else ρ j
theorem plus_le {i : Nat} {L : Loc} (h : ρ i = none) : Le ρ (plus ρ i L) := by
  intro j M hj
  unfold plus
  split
  · rename_i e; subst e; rw [h] at hj; cases hj
  · exact hj

theorem push_step (R : Rel P w0 ρ H W) {ob : AObj} {obj : Obj} {g : Option (Nat × Nat)} (hf : Fresh ρ H (H ++ [ob])) (hheap : W'.heap = W.heap.push obj)
    (henv : W'.tape = W.tape ∧ W'.os = W.os ∧ W'.output = W.output) (hobj : ObjRel P ρ ob ⟨W.heap.size, g⟩ (some obj)) :
    Step P w0 ρ (plus ρ H.length ⟨W.heap.size, g⟩) H (H ++ [ob]) W W' := by
  have hf' : ρ H.length = none := hf _ (Nat.le_refl _) (by simp)
  have hl := plus_le (L := ⟨W.heap.size, g⟩) hf'
  have hlow : ∀ b, b < W.heap.size → W'.heap[b]? = W.heap[b]? := fun b hb => by rw [hheap, Array.getElem?_push_lt hb]; simp [hb]
  have hsz : W'.heap.size = W.heap.size + 1 := by rw [hheap]; simp
  have hnew : W'.heap[W.heap.size]? = some obj := by rw [hheap]; simp
  have same : ∀ j, j ≠ H.length → plus ρ H.length ⟨W.heap.size, g⟩ j = ρ j := fun j hj => by simp [plus, hj]
  have here : plus ρ H.length ⟨W.heap.size, g⟩ H.length = some ⟨W.heap.size, g⟩ := by simp [plus]
  have split : ∀ (i : Nat) (o : AObj), (H ++ [ob])[i]? = some o → (i < H.length ∧ H[i]? = some o) ∨ (i = H.length ∧ o = ob) := by
    intro i o h
    by_cases hi : i < H.length
    · rw [List.getElem?_append_left hi] at h; exact .inl ⟨hi, h⟩
    · rw [List.getElem?_append_right (by omega)] at h
      have : i - H.length = 0 := by
        have := (List.getElem?_eq_some_iff.1 h).1
        simp at this
        omega
      rw [this] at h
      simp at h
      exact .inr ⟨by omega, h.symm⟩
  refine ⟨by simp, fun i hi => same i (by simp at hi; omega), fun i L h1 h2 h3 => ?_, fun i h => ?_, ⟨by have := R.size; omega, fun b hb => ?_, fun i L h => ?_, ?_, ?_⟩, by omega, fun b hb _ => hlow b hb, henv⟩
  · have : i = H.length := by simp at h2; omega
    subst this
    rw [here] at h3
    cases h3
    exact .inl (Nat.le_refl _)
  · rw [List.getElem?_append_left (List.getElem?_eq_some_iff.1 h).1]; exact h
  · rw [hlow b (by have := R.size; omega)]; exact R.base b hb
  · by_cases hi : i = H.length
    · subst hi; rw [here] at h; cases h; exact ⟨R.size, by simp only; omega⟩
    · rw [same i hi] at h; have := R.lo i L h; omega
  · intro i j o q L M h1 h2 h3 h4 h5 h6 h7
    rcases split i o h1 with ⟨hi, h1⟩ | ⟨hi, rfl⟩ <;> rcases split j q h2 with ⟨hj, h2⟩ | ⟨hj, rfl⟩
    · rw [same i (by omega)] at h5
      rw [same j (by omega)] at h6
      exact R.inj i j o q L M h1 h2 h3 h4 h5 h6 h7
    · rw [same i (by omega)] at h5
      subst hj
      rw [here] at h6
      cases h6
      have := (R.lo i L h5).2
      simp only at h7
      omega
    · rw [same j (by omega)] at h6
      subst hi
      rw [here] at h5
      cases h5
      have := (R.lo j M h6).2
      simp only at h7
      omega
    · omega
  · intro i o L h1 h2
    rcases split i o h1 with ⟨hi, h1⟩ | ⟨hi, rfl⟩
    · rw [same i (by omega)] at h2
      rw [hlow _ (R.lo i L h2).2]
      exact (R.obj i o L h1 h2).mono hl
    · subst hi
      rw [here] at h2
      cases h2
      rw [hnew]
      exact hobj.mono hl

/- what one operation comes to, in the model -/
def Out (r : Result Next) (v' : Value) (W' : World) : Prop := r = .ok (.value v') W' ∨ (v' = undef ∧ r = .ok .skip W')

theorem cells_obj {cs : List Value} {C : Array Value} {e : TypeId} {fr : Nat × Nat} {b : Nat} (h : cvL ρ cs = some C.toList) (hfr : ∀ off, off < C.size → ¬ (fr.1 ≤ off ∧ off < fr.2)) : ObjRel P ρ (.cells cs e false) ⟨b, none⟩ (some (.cells C e fr)) := by
  have hl := cvL_length h
  simp only [Array.length_toList] at hl
  refine ⟨C, fr, rfl, hfr, by simp [hl], ?_⟩
  rw [← hl, ← Array.length_toList, List.take_length]
  exact h

theorem makecells (z : Array Value) (m : Nat) (hz : scalL z.toList = true) : cvL ρ ((List.range m).map fun j => z[j % z.size]!) = some (madeCells z m).toList := by
  have h1 : (madeCells z m).toList = (List.range m).map fun j => z[j % z.size]! := by simp [madeCells]
  rw [h1]
  refine cvL_scal ρ _ ?_
  have hall : ∀ (l : List Value), scalL l = l.all scal := by
    intro l
    induction l with
    | nil => rfl
    | cons v r ih => simp [scalL, ih]
  rw [hall, List.all_eq_true]
  intro v hv
  obtain ⟨j, _, rfl⟩ := List.mem_map.1 hv
  by_cases hj : j % z.size < z.size
  · rw [getElem!_pos z _ hj]
    rw [hall, List.all_eq_true] at hz
    exact hz _ (by simp)
  · rw [getElem!_neg z _ hj]
    rfl
end Go.Am
/- The abstract machine beside the model's: operations that make one new object. -/
namespace Go.Am
variable {P : Program} {w0 : World} {ρ ρ' : Ren} {H H' : AH} {W W' : World} {n : Nat} {T : Fr} {a : Act}

theorem env_alloc (o : Obj) : (W.alloc o).tape = W.tape ∧ (W.alloc o).os = W.os ∧ (W.alloc o).output = W.output := ⟨rfl, rfl, rfl⟩
theorem env_drew_alloc (o : Obj) : (W.drew.alloc o).tape = W.tape ∧ (W.drew.alloc o).os = W.os ∧ (W.drew.alloc o).output = W.output := ⟨rfl, rfl, rfl⟩

theorem azero_info {t : TypeId} {z : Value} (h : azero P t = some z) : ∃ i, P.info? t = some i ∧ i.zero = some z ∧ scal z = true := by
  unfold azero at h
  split at h
  · rename_i i hi
    split at h
    · rename_i z' hz
      split at h
      · rename_i hs; cases h; exact ⟨i, hi, hz, hs⟩
      · cases h
    · cases h
  · cases h

theorem scal_cells {z : Value} (h : scal z = true) : scalL z.cells.toList = true := by
  cases z with
  | agg l => obtain ⟨l⟩ := l; simpa [Value.cells, scal] using h
  | tuple l => obtain ⟨l⟩ := l; simpa [Value.cells, scalL, scal] using h
  | _ => simpa [Value.cells, scalL] using h

theorem not_frozen0 {C : Array Value} : ∀ off, off < C.size → ¬ ((0, 0).1 ≤ off ∧ off < (0, 0).2) := fun off _ h => by simp at h

/- the end of every case: a new row of exactly these cells -/
theorem row_fin (R : Rel P w0 ρ H W) {cs : List Value} {e : TypeId} {C : Array Value} (hf : Fresh ρ H (H ++ [.cells cs e false])) (hc : cvL ρ cs = some C.toList) :
    ∃ ρ', Step P w0 ρ ρ' H (H ++ [.cells cs e false]) W (W.alloc (.cells C e)) ∧ ρ' H.length = some ⟨W.heap.size, none⟩ :=
  ⟨_, push_step R (g := none) hf rfl (env_alloc _) (cells_obj hc not_frozen0), by simp [plus]⟩

theorem aalloc_rel (R : Rel P w0 ρ H W) (hT : RelT ρ n T a.tmps) {o : Oper} (hok : operOk n o = true) {ob : AObj} {mk : Nat → Value} (h : aalloc P o T = some (ob, mk)) (hf : Fresh ρ H (H ++ [ob])) :
    ∃ ρ' v' W', cv ρ' (mk H.length) = some v' ∧ (execOp a.eval o).run P W = .ok (.value v') W' ∧ Step P w0 ρ ρ' H (H ++ [ob]) W W' := by
  have hop := operOk_ops hok
  have ev : ∀ x, x ∈ o.op.operands.toList → cv ρ (aev T x) = some (a.eval x) := fun x hx => hT.ev (hop x hx).1 (hop x hx).2
  obtain ⟨dst, op, ty, pos, after, guard⟩ := o
  unfold aalloc at h
  cases op <;> simp only [Op.operands] at h ev hop <;> try (cases h; done)
  case alloc e =>
    rw [Option.map_eq_some_iff] at h
    obtain ⟨z, hz, h⟩ := h
    cases h
    have hs := azero_zero hz
    obtain ⟨ρ', S, hn⟩ := row_fin R hf (cvL_scal ρ _ (scal_cells hs.2))
    exact ⟨ρ', .pointer (some ⟨W.heap.size, 0, none⟩), _, by simp [cv, cvAddr, hn], by simp [execOp, Instr.alloc, pv_run hs.1, newVar, newRow], S⟩
  case box e x =>
    cases h
    obtain ⟨ρ', S, hn⟩ := row_fin R hf (cv_cells (ev x (by simp)))
    exact ⟨ρ', .pointer (some ⟨W.heap.size, 0, none⟩), _, by simp [cv, cvAddr, hn], by simp [execOp, Instr.box, newVar, newRow], S⟩
  case buildSlice t len parts =>
    split at h
    · rename_i e hu
      split at h
      · rename_i size hsz
        have hsr : ∀ W, (sizeOf e).run P W = .ok size W := pv_run (by rw [pv_sizeOf, hsz])
        split at h
        · cases h
        · rename_i hbig
          have hbig' : ¬ (2 ^ 24 < len * size) := by omega
          split at h
          · rename_i zero hz
            split at h
            · rename_i cells hfill
              cases h
              have hzs : scalL zero.toList = true ∧ (len * size = 0 ∧ zero = #[] ∨ len * size ≠ 0 ∧ ∃ z, azero P e = some z ∧ zero = z.cells) := by
                split at hz
                · rename_i h0; cases hz; exact ⟨rfl, .inl ⟨h0, rfl⟩⟩
                · rename_i h0
                  rw [Option.map_eq_some_iff] at hz
                  obtain ⟨z, hz, rfl⟩ := hz
                  exact ⟨scal_cells (azero_zero hz).2, .inr ⟨h0, z, hz, rfl⟩⟩
              have hp : PRel ρ (parts.map fun (i, x) => (i, aev T x)).toList (parts.map fun (i, x) => (i, a.eval x)).toList := by
                rw [Array.toList_map, Array.toList_map]
                refine PRel.of hT _ (fun p hp => hop p.2 (by simp; exact ⟨p.1, by simpa using hp⟩))
              have h0 : cvL ρ ((Array.range (len * size)).map (zero[· % zero.size]!)).toList = some ((Array.range (len * size)).map (zero[· % zero.size]!)).toList := by
                have := makecells (ρ := ρ) zero (len * size) hzs.1
                simp only [madeCells] at this
                simpa using this
              obtain ⟨out', h1, h2⟩ := fill_rel _ _ _ _ _ _ hp h0 hfill
              obtain ⟨ρ', S, hn⟩ := row_fin R hf h2
              refine ⟨ρ', .slice (some ⟨W.heap.size, 0, none⟩) len len, _, by simp [cv, cvSlice, hn], ?_, S⟩
              simp only [execOp]
              generalize (Array.map (fun (x : Nat × Operand) => match x with | (i, x) => (i, a.eval x)) parts) = q at h1 ⊢
              unfold Instr.buildSlice
              rcases hzs.2 with ⟨hl, rfl⟩ | ⟨hl, z, hz', rfl⟩
              · simp only [Sem.run_bind, run_underlying hu, Result.andThen_ok, hsr, if_neg hbig, Sem.run_pure, Sem.run_ite, if_pos hl]
                rw [h1]
                simp [newRow]
              · simp only [Sem.run_bind, run_underlying hu, Result.andThen_ok, hsr, if_neg hbig, Sem.run_pure, Sem.run_ite, if_neg hl, run_zero hz']
                rw [h1]
                simp [newRow]
            · cases h
          · cases h
      · cases h
    · cases h
  case makeSlice t l c =>
    have hl := ev l (by simp)
    have hc := ev c (by simp)
    split at h
    · rename_i e kl l' kc c' hu el ec
      rw [el] at hl
      rw [ec] at hc
      have hl := cv_int hl
      have hc := cv_int hc
      split at h
      · rename_i i hi
        split at h
        · rename_i hb
          obtain ⟨h0, hlc, h63, hbytes⟩ := hb
          split at h
          · rename_i zero hz
            cases h
            have hzs : scalL zero.toList = true ∧ (c'.toNat * i.size = 0 ∧ zero = #[] ∨ c'.toNat * i.size ≠ 0 ∧ ∃ z, azero P e = some z ∧ zero = z.cells) := by
              split at hz
              · rename_i h0; cases hz; exact ⟨rfl, .inl ⟨h0, rfl⟩⟩
              · rename_i h0
                rw [Option.map_eq_some_iff] at hz
                obtain ⟨z, hz, rfl⟩ := hz
                exact ⟨scal_cells (azero_zero hz).2, .inr ⟨h0, z, hz, rfl⟩⟩
            obtain ⟨ρ', S, hn⟩ := row_fin R hf (makecells (ρ := ρ) zero (c'.toNat * i.size) hzs.1)
            refine ⟨ρ', .slice (some ⟨W.heap.size, 0, none⟩) l'.toNat c'.toNat, _, by simp [cv, cvSlice, hn], ?_, S⟩
            have wl : IntKind.i64.wrap l' = l' := by rw [IntKind.wrap_i64]; omega
            have wc : IntKind.i64.wrap c' = c' := by rw [IntKind.wrap_i64]; omega
            have n1 : ¬ c' < 0 := by omega
            have n2 : ¬ (281474976710656 < (i.bytes : Int) * c') := by omega
            have n3 : ¬ l' < 0 := by omega
            have n4 : ¬ c' < l' := by omega
            rcases hzs.2 with ⟨hl0, rfl⟩ | ⟨hl0, z, hz', rfl⟩
            · simp [execOp, hl, hc, Instr.makeSlice, run_underlying hu, asInt, asIntOf, typeInfo, hi, sizeOf, wl, wc, n1, n2, n3, n4, hl0, newRow, madeCells, Array.range_zero']
            · obtain ⟨i2, hi2, hz2, _⟩ := azero_info hz'
              rw [hi] at hi2
              cases hi2
              simp [execOp, hl, hc, Instr.makeSlice, run_underlying hu, asInt, asIntOf, typeInfo, hi, sizeOf, zeroValue, hz2, wl, wc, n1, n2, n3, n4, hl0, newRow, madeCells]
          · cases h
        · cases h
      · cases h
    · cases h
  case makeMap t r =>
    have fin : ob = .map [] 0 → mk = (fun i => .map (some i)) → (Instr.makeMap t (r.map a.eval)).run P W = .ok (.map (some W.heap.size)) (W.alloc (.map #[] 0)) →
        ∃ ρ' v' W', cv ρ' (mk H.length) = some v' ∧ (execOp a.eval ⟨dst, .makeMap t r, ty, pos, after, guard⟩).run P W = .ok (.value v') W' ∧ Step P w0 ρ ρ' H (H ++ [ob]) W W' := by
      rintro rfl rfl hr
      have S := push_step R (g := none) (obj := .map #[] 0) (W' := W.alloc (.map #[] 0)) hf rfl (env_alloc _) ⟨rfl, #[], rfl, trivial⟩
      exact ⟨_, .map (some W.heap.size), _, by simp [cv, plus], by simp [execOp, hr], S⟩
    split at h
    · cases h
      exact fin rfl rfl (by simp [Instr.makeMap])
    · rename_i x
      split at h
      · rename_i kt et k i hu hi
        cases h
        have hx := ev x (by simp)
        rw [hi] at hx
        have hx := cv_int hx
        exact fin rfl rfl (by simp [Instr.makeMap, run_underlying hu, hx, asInt, asIntOf])
      · cases h
  case convert s d x =>
    split at h
    · rename_i e bs hs hd hx
      split at h
      · rename_i he hsz
        cases h
        have hxx := ev x (by simp)
        rw [hx] at hxx
        have hxx := cv_string hxx
        have hr := run_bytes_of_string W s d e bs hs hd he
        have hcap := grownCap_ge W bs.size 0 e
        have hsize : (bytesRow bs (grownCap W bs.size 0 e)).size = grownCap W bs.size 0 e := by
          have : bs.data.size = bs.size := rfl
          simp [bytesRow, this]
          omega
        have hsc : cvL ρ (bs.data.toList.map fun b => Value.int .u8 b.toNat) = some (bs.data.toList.map fun b => Value.int .u8 b.toNat) := cvL_map _ _ _ (fun x _ => rfl)
        have S := push_step R (g := some ((bytesRow bs (grownCap W bs.size 0 e)).size, P.cellsOf e)) (obj := .cells (bytesRow bs (grownCap W bs.size 0 e)) e ((bytesRow bs (grownCap W bs.size 0 e)).size, (bytesRow bs (grownCap W bs.size 0 e)).size + 1))
          (W' := W.drew.alloc (.cells (bytesRow bs (grownCap W bs.size 0 e)) e ((bytesRow bs (grownCap W bs.size 0 e)).size, (bytesRow bs (grownCap W bs.size 0 e)).size + 1))) hf rfl (env_drew_alloc _)
          ⟨_, _, rfl, fun off h1 h2 => by simp only at h2; omega, by
            have : bs.data.size = bs.size := rfl
            simp [hsize, this, hcap], by
            rw [hsc]
            congr 1
            simp [bytesRow]⟩
        refine ⟨_, _, _, ?_, by simp only [execOp, hxx, Sem.run_bind, hr, Result.andThen_ok, Sem.run_pure]; rfl, S⟩
        simp only [cv, cvSlice, plus, if_true, hsize, asize_cells hsz, Nat.sub_zero, Nat.div_one, if_pos hcap]
      · cases h
    · cases h
  case range t x =>
    split at h
    · rename_i s hu hx
      cases h
      have hxx := ev x (by simp)
      rw [hx] at hxx
      have hxx := cv_string hxx
      have S := push_step R (g := none) (obj := .stringIter s 0) (W' := W.alloc (.stringIter s 0)) hf rfl (env_alloc _) ⟨rfl, rfl⟩
      exact ⟨_, .pointer (some ⟨W.heap.size, 0, none⟩), _, by simp [cv, cvAddr, plus], by simp [execOp, hxx, Instr.range, run_underlying hu], S⟩
    · cases h
end Go.Am
/- The abstract machine beside the model's: writing into an object that is there; store, copy. -/
namespace Go.Am
variable {P : Program} {w0 : World} {ρ ρ' : Ren} {H H' : AH} {W W' : World} {n : Nat} {T : Fr} {a : Act}

theorem get_set {i j : Nat} {o o' q : AObj} (hi : H[i]? = some o) (h : (H.set i o')[j]? = some q) : (j = i ∧ q = o') ∨ (j ≠ i ∧ H[j]? = some q) := by
  by_cases e : j = i
  · subst e
    have := (List.getElem?_eq_some_iff.1 hi).1
    rw [List.getElem?_set_self this] at h
    cases h
    exact .inl ⟨rfl, rfl⟩
  · rw [List.getElem?_set_ne (Ne.symm e)] at h
    exact .inr ⟨e, h⟩

theorem set_step (R : Rel P w0 ρ H W) {i : Nat} {o o' : AObj} {L : Loc} (hi : H[i]? = some o) (ha : alive o) (hL : ρ i = some L) (hsz : W'.heap.size = W.heap.size)
    (hoth : ∀ b, b ≠ L.blk → W'.heap[b]? = W.heap[b]?) (henv : W'.tape = W.tape ∧ W'.os = W.os ∧ W'.output = W.output) (hobj : ObjRel P ρ o' L W'.heap[L.blk]?) :
    Step P w0 ρ ρ H (H.set i o') W W' := by
  have hlo := R.lo i L hL
  refine ⟨by simp, fun _ _ => rfl, fun j M h1 h2 => by simp at h2; omega, fun j h => ?_, ⟨by rw [hsz]; exact R.size, fun b hb => ?_, fun j M h => by rw [hsz]; exact R.lo j M h, ?_, ?_⟩, by omega, fun b hb hn => ?_, henv⟩
  · by_cases e : j = i
    · subst e; rw [hi] at h; cases h; exact ha.elim
    · rw [List.getElem?_set_ne (Ne.symm e)]; exact h
  · rw [hoth b (by omega)]; exact R.base b hb
  · intro j k q r M N h1 h2 h3 h4 h5 h6 h7
    have back : ∀ (j : Nat) (q : AObj), (H.set i o')[j]? = some q → alive q → ∃ q', H[j]? = some q' ∧ alive q' := by
      intro j q h hq
      rcases get_set hi h with ⟨rfl, _⟩ | ⟨_, h⟩
      · exact ⟨o, hi, ha⟩
      · exact ⟨q, h, hq⟩
    obtain ⟨q', e1, e2⟩ := back j q h1 h3
    obtain ⟨r', e3, e4⟩ := back k r h2 h4
    exact R.inj j k q' r' M N e1 e3 e2 e4 h5 h6 h7
  · intro j q M h1 h2
    rcases get_set hi h1 with ⟨rfl, rfl⟩ | ⟨hne, h1⟩
    · rw [hL] at h2; cases h2; exact hobj
    · by_cases hq : alive q
      · have : M.blk ≠ L.blk := fun e => hne (R.inj j i q o M L h1 hi hq ha h2 hL e)
        rw [hoth _ this]
        exact R.obj j q M h1 h2
      · cases q <;> first | exact (hq trivial).elim | trivial
  · exact hoth b (fun e => hn i o L hi ha hL e.symm)

def spliceA : Array Value → Nat → List Value → Array Value
  | C, _, [] => C
  | C, o, v :: r => spliceA (C.setIfInBounds o v) (o + 1) r
theorem spliceA_toList : ∀ (vs : List Value) (C : Array Value) (o : Nat), (spliceA C o vs).toList = splice C.toList o vs
  | [], _, _ => rfl
  | v :: r, C, o => by simp only [spliceA, splice]; rw [spliceA_toList r]; simp
theorem spliceA_size : ∀ (vs : List Value) (C : Array Value) (o : Nat), (spliceA C o vs).size = C.size
  | [], _, _ => rfl
  | v :: r, C, o => by simp only [spliceA]; rw [spliceA_size r]; simp
theorem splice_length : ∀ (vs cs : List Value) (o : Nat), (splice cs o vs).length = cs.length
  | [], _, _ => rfl
  | v :: r, cs, o => by simp only [splice]; rw [splice_length r]; simp
theorem splice_take : ∀ (vs cs : List Value) (o k : Nat), (splice cs o vs).take k = splice (cs.take k) o vs
  | [], _, _, _ => rfl
  | v :: r, cs, o, k => by simp only [splice]; rw [splice_take r, List.take_set]
theorem cvL_splice : ∀ {vs vs' cs cs' : List Value} (o : Nat), cvL ρ vs = some vs' → cvL ρ cs = some cs' → cvL ρ (splice cs o vs) = some (splice cs' o vs')
  | [], vs', cs, cs', o, h, hc => by simp only [cvL, Option.some.injEq] at h; subst h; exact hc
  | v :: r, vs', cs, cs', o, h, hc => by
    obtain ⟨x, y, hx, hy, rfl⟩ := cvL_cons.1 h
    exact cvL_splice (o + 1) hy (cvL_set o hc hx)

theorem setCells_heap (b : Nat) : ∀ (vs : List Value) (o : Nat) (W : World) (C : Array Value) (e : TypeId) (fr : Nat × Nat), W.heap[b]? = some (.cells C e fr) →
    (W.setCells b o vs).heap[b]? = some (.cells (spliceA C o vs) e fr) ∧ (∀ b', b' ≠ b → (W.setCells b o vs).heap[b']? = W.heap[b']?) ∧ (W.setCells b o vs).heap.size = W.heap.size ∧
      ((W.setCells b o vs).tape = W.tape ∧ (W.setCells b o vs).os = W.os ∧ (W.setCells b o vs).output = W.output)
  | [], o, W, C, e, fr, h => ⟨h, fun _ _ => rfl, rfl, rfl, rfl, rfl⟩
  | v :: r, o, W, C, e, fr, h => by
    have h1 : (W.setCell ⟨b, o, none⟩ v).heap[b]? = some (.cells (C.setIfInBounds o v) e fr) := by
      simp [World.setCell, Array.getElem?_modify, h]
    obtain ⟨e1, e2, e3, e4⟩ := setCells_heap b r (o + 1) (W.setCell ⟨b, o, none⟩ v) _ e fr h1
    refine ⟨e1, fun b' hb => ?_, by rw [World.setCells, e3]; simp, e4⟩
    rw [World.setCells, e2 b' hb]
    simp [World.setCell, Array.getElem?_modify, Ne.symm hb]

theorem one_of_cellV : ∀ {l l' : List Value}, l.all cellV = true → cvL ρ l = some l' → ∀ v ∈ l', v.oneCell' = true
  | [], l', _, h => by simp only [cvL, Option.some.injEq] at h; subst h; simp
  | v :: r, l', ha, h => by
    obtain ⟨x, y, hx, hy, rfl⟩ := cvL_cons.1 h
    rw [List.all_cons, Bool.and_eq_true] at ha
    intro u hu
    rcases List.mem_cons.1 hu with rfl | hu
    · cases v <;> first
        | (simp [cellV] at ha; done)
        | (rename_i q; cases q <;> simp only [cv, Option.map_eq_some_iff, Option.some.injEq] at hx <;> first
            | (subst hx; rfl)
            | (obtain ⟨_, _, rfl⟩ := hx; rfl)
            | (cases hx; done))
        | (simp only [cv, Option.some.injEq] at hx; subst hx; rfl)
        | (rename_i q m c; cases q with
            | none => have := cv_slice_none hx; subst this; rfl
            | some q => obtain ⟨_, _, rfl⟩ := cv_slice_some hx; rfl)
        | (obtain ⟨_, rfl, _⟩ := cv_iface hx; rfl)
        | (obtain ⟨_, _, _, rfl, _⟩ := cv_func hx; rfl)
    · exact one_of_cellV ha.2 hy u hu

theorem putCells_rel (R : Rel P w0 ρ H W) {x c : Addr} {vs vs' : List Value} (h : putCells H x vs = some H') (hx : (ρ x.block).map (fun L => (⟨L.blk, x.off, none⟩ : Addr)) = some c) (hv : cvL ρ vs = some vs') :
    ∃ W', (storeCells c vs').run P W = .ok () W' ∧ Step P w0 ρ ρ H H' W W' := by
  have hlen := cvL_length hv
  unfold putCells at h
  cases vs with
  | nil =>
    simp only [cvL, Option.some.injEq] at hv
    subst hv
    cases h
    exact ⟨W, rfl, Step.refl R⟩
  | cons v r =>
    simp only at h
    have new : ∀ (h' : (match H[x.block]? with | some (.cells cs e g) => if x.off + (v :: r).length ≤ cs.length ∧ (v :: r).all cellV = true then some (H.set x.block (.cells (splice cs x.off (v :: r)) e g)) else none | _ => none) = some H'),
        ∃ W', (storeCells c vs').run P W = .ok () W' ∧ Step P w0 ρ ρ H H' W W' := by
      intro h'
      split at h'
      · rename_i cs e g hH
        split at h'
        · rename_i hb
          cases h'
          rw [Option.map_eq_some_iff] at hx
          obtain ⟨L, hL, rfl⟩ := hx
          obtain ⟨C, fr, hC, hfr, hle, hg, hcv⟩ := R.row hH hL
          obtain ⟨e1, e2, e3, e4⟩ := setCells_heap L.blk vs' x.off W C e fr hC
          have hst := run_storeCells_cells (P := P) L.blk x.off vs' 0 W (fun j hj => by
              have hlt : x.off + j < C.size := by omega
              simp [World.cell?, hC, hlt]) (fun j hj => by
              have hlt : x.off + j < C.size := by omega
              have := hfr _ hlt
              simp [World.frozen?, hC]
              omega) (one_of_cellV hb.2 hv)
          refine ⟨_, hst, set_step R hH trivial hL e3 e2 e4 ?_⟩
          rw [Nat.add_zero, e1]
          refine ⟨_, fr, rfl, fun off ho => hfr off (by rwa [spliceA_size] at ho), ?_, ?_⟩
          · rw [spliceA_size, splice_length]
            cases g
            · simpa using hg
            · simp only [if_true] at hg ⊢; exact ⟨hg, hle⟩
          · rw [spliceA_toList, splice_length, splice_take]
            exact cvL_splice _ hv hcv
        · cases h'
      · cases h'
    split at h
    · exact new h
    · exact new h
    · cases h

theorem cvAddr_spot {b c : Addr} (h : cvAddr ρ b = some c) (hs : b.spot ≠ some 0) : (ρ b.block).map (fun L => (⟨L.blk, b.off, none⟩ : Addr)) = some c := by
  unfold cvAddr at h
  split at h
  · exact h
  · rename_i hs'; exact (hs hs').elim
  · cases h

theorem putCells_spot {x : Addr} {vs : List Value} (h : putCells H x vs = some H') : vs = [] ∧ H' = H ∨ x.spot ≠ some 0 := by
  unfold putCells at h
  split at h
  · cases h; exact .inl ⟨rfl, rfl⟩
  · split at h
    · rename_i hs; right; rw [hs]; simp
    · rename_i hs; right; rw [hs]; simp
    · cases h

theorem astore_rel (R : Rel P w0 ρ H W) {t : TypeId} {p p' v v' : Value} (h : astore P H t p v = some H') (hp : cv ρ p = some p') (hv : cv ρ v = some v') :
    ∃ W', (Instr.storeAt t p' v').run P W = .ok () W' ∧ Step P w0 ρ ρ H H' W W' := by
  unfold astore at h
  split at h
  · rename_i b
    obtain ⟨c, rfl, hc⟩ := cv_ptr_some hp
    split at h
    · rename_i hsz
      have hsz' : ∀ W, (sizeOf t).run P W = .ok v'.cells.size W := pv_run (by rw [pv_sizeOf, hsz, cells_size hv])
      have hvc := cv_cells hv
      have key : ∃ W', (storeCells c v'.cells.toList).run P W = .ok () W' ∧ Step P w0 ρ ρ H H' W W' := by
        rcases putCells_spot h with ⟨h1, h2⟩ | h1
        · rw [h1] at hvc
          simp only [cvL, Option.some.injEq] at hvc
          rw [← hvc]
          subst h2
          exact ⟨W, rfl, Step.refl R⟩
        · exact putCells_rel R h (cvAddr_spot hc h1) hvc
      obtain ⟨W', h1, h2⟩ := key
      exact ⟨W', by simp [Instr.storeAt, Instr.sureAddr, storeVar, hsz', h1], h2⟩
    · cases h
  · cases h
end Go.Am
/- The abstract machine beside the model's: copy, clear, delete, the maps, the iterator of a string. -/
namespace Go.Am
variable {P : Program} {w0 : World} {ρ ρ' : Ren} {H H' : AH} {W W' : World} {n : Nat} {T : Fr} {a : Act}

theorem src_cells (R : Rel P w0 ρ H W) {x : Addr} {k c m : Nat} {x' : Value} {l : List Value} (hx : cv ρ (.slice (some x) k c) = some x') (h : acells w0 H x m = some l) :
    ∃ d c' l', x' = .slice (some d) k c' ∧ cvL ρ l = some l' ∧ l'.length = m ∧ CellsAt W d.block d.off l' ∧ d.spot = none := by
  obtain ⟨d, c', rfl, hd⟩ := cvSlice_addr hx (acells_spot h)
  obtain ⟨l', h1, h2, h3, h4⟩ := acells_rel R h hd
  exact ⟨d, c', l', rfl, h1, h2, h3, h4⟩

theorem firstCells_run {d : Addr} {k c m size : Nat} {l : List Value} (hl : l.length = m * size) (hc : CellsAt W d.block d.off l) (hs : d.spot = none) : (Builtin.firstCells size m (.slice (some d) k c)).run P W = .ok l.toArray W := by
  refine run_firstCells_some W size m d k c l hl (fun j v hj => ?_)
  obtain ⟨b, o, s⟩ := d
  simp only at hs
  subst hs
  rw [add_plain]
  exact hc j v hj

theorem loadCells_zero (d : Addr) : (loadCells d 0).run P W = .ok #[] W := rfl

theorem put_slice (R : Rel P w0 ρ H W) {x : Addr} {k c : Nat} {x' : Value} {vs vs' : List Value} (hx : cv ρ (.slice (some x) k c) = some x') (h : putCells H x vs = some H') (hv : cvL ρ vs = some vs') :
    ∃ d c' W', x' = .slice (some d) k c' ∧ (storeCells d vs').run P W = .ok () W' ∧ Step P w0 ρ ρ H H' W W' := by
  rcases putCells_spot h with ⟨h1, h2⟩ | h1
  · subst h1
    subst h2
    simp only [cvL, Option.some.injEq] at hv
    subst hv
    obtain ⟨d, c', rfl⟩ := cv_slice_some hx
    exact ⟨d, c', W, rfl, rfl, Step.refl R⟩
  · by_cases hnil : vs = []
    · subst hnil
      cases h
      simp only [cvL, Option.some.injEq] at hv
      subst hv
      obtain ⟨d, c', rfl⟩ := cv_slice_some hx
      exact ⟨d, c', W, rfl, rfl, Step.refl R⟩
    · have hs : x.spot ≠ some 1 := by
        intro hs
        unfold putCells at h
        rw [hs] at h
        cases vs with
        | nil => exact hnil rfl
        | cons _ _ => cases h
      obtain ⟨d, c', rfl, hd⟩ := cvSlice_addr hx hs
      rcases hd with ⟨hd, _⟩ | ⟨hd, _⟩
      · obtain ⟨W', h2, h3⟩ := putCells_rel R h hd hv
        exact ⟨d, c', W', rfl, h2, h3⟩
      · exact (h1 hd).elim

theorem byteVals_take (s : ByteArray) (size k : Nat) : (Builtin.firstCells size k (.string s)).run P W = .ok ((s.data.toList.take k).map fun b => Value.int .u8 b.toNat).toArray W := by
  simp [Builtin.firstCells]
  apply Array.ext'
  simp [List.extract_eq_take_drop]

theorem acopy_rel (R : Rel P w0 ρ H W) {ts : Array TypeId} {ty : TypeId} {l l' : List Value} {v : Value} (h : acopy P w0 H ts l = some (v, H')) (hl : cvL ρ l = some l') :
    ∃ v' W', cv ρ v = some v' ∧ (Builtin.copy_ ts ty ⟨l'⟩).run P W = .ok v' W' ∧ Step P w0 ρ ρ H H' W W' := by
  unfold acopy at h
  split at h
  · rename_i t d m cd src ht
    obtain ⟨dst', r, hd, hr, rfl⟩ := cvL_cons.1 hl
    obtain ⟨src', r2, hs, hr2, rfl⟩ := cvL_cons.1 hr
    simp only [cvL, Option.some.injEq] at hr2
    subst hr2
    split at h
    · rename_i e hu
      split at h
      · rename_i size hsz
        have hsr : ∀ W, (sizeOf e).run P W = .ok size W := pv_run (by rw [pv_sizeOf, hsz])
        have fin : ∀ (k : Nat) (cells cells' : List Value), (∃ ln, (∀ W, (Builtin.lenOf src').run P W = .ok ln W) ∧ Nat.min ln m = k) → (Builtin.firstCells size k src').run P W = .ok cells'.toArray W → cvL ρ cells = some cells' →
            (match (generalizing := false) some (k, cells), d with | some (k, l), some a => (putCells H a l).map fun H' => (Value.int .i64 k, H') | some (k, _), none => some (Value.int .i64 k, H) | none, _ => none) = some (v, H') →
            ∃ v' W', cv ρ v = some v' ∧ (Builtin.copy_ ts ty ⟨[dst', src']⟩).run P W = .ok v' W' ∧ Step P w0 ρ ρ H H' W W' := by
          intro k cells cells' hln hf hc h
          obtain ⟨ln, hln, hk⟩ := hln
          cases d with
          | none =>
            cases h
            have := cv_slice_none hd
            subst this
            exact ⟨.int .i64 k, W, rfl, by simp [Builtin.copy_, ht, run_underlying hu, hln, hk, hsr, hf, goInt], Step.refl R⟩
          | some x =>
            simp only [Option.map_eq_some_iff] at h
            obtain ⟨H2, hp, h⟩ := h
            cases h
            obtain ⟨d', c', W', rfl, h1, h2⟩ := put_slice R hd hp hc
            exact ⟨.int .i64 k, W', rfl, by simp [Builtin.copy_, ht, run_underlying hu, hln, hk, hsr, hf, goInt, h1], h2⟩
        cases src <;> simp only at h <;> try (cases h; done)
        case string s =>
          have := cv_string hs
          subst this
          exact fin _ _ _ ⟨s.size, fun W => rfl, rfl⟩ (byteVals_take s size _) (cvL_map (fun b => Value.int .u8 b.toNat) _ _ (fun x _ => rfl)) h
        case slice x k c =>
          have hln : ∀ W, (Builtin.lenOf src').run P W = .ok k W := by
            intro W
            cases x with
            | none => rw [cv_slice_none hs]; rfl
            | some x => obtain ⟨_, _, rfl⟩ := cv_slice_some hs; rfl
          by_cases hk : Nat.min k m = 0
          · simp only [hk, if_true] at h
            refine fin 0 [] [] ⟨k, hln, hk⟩ ?_ rfl h
            cases x with
            | none => rw [cv_slice_none hs]; rfl
            | some x => obtain ⟨_, _, rfl⟩ := cv_slice_some hs; simp [Builtin.firstCells, loadCells_zero]
          · simp only [hk, if_false] at h
            cases x with
            | none => cases h
            | some x =>
              simp only at h
              cases hac : acells w0 H x (Nat.min k m * size) with
              | none => rw [hac] at h; cases h
              | some cells =>
                rw [hac] at h
                simp only [Option.map_some] at h
                obtain ⟨d2, c2, cells', rfl, h1, h2, h3, h4⟩ := src_cells R hs hac
                exact fin _ cells cells' ⟨k, hln, rfl⟩ (firstCells_run h2 h3 h4) h1 h
      · cases h
    · cases h
  · cases h
end Go.Am
/- The abstract machine beside the model's: clear, delete, the maps, the iterator of a string. -/
namespace Go.Am
variable {P : Program} {w0 : World} {ρ ρ' : Ren} {H H' : AH} {W W' : World} {n : Nat} {T : Fr} {a : Act}

theorem zeroCells_scal (z : Array Value) (m : Nat) (hz : scalL z.toList = true) : cvL ρ (Builtin.zeroCells z m).toList = some (Builtin.zeroCells z m).toList := by
  have := makecells (ρ := ρ) z (m * z.size) hz
  have e : (Builtin.zeroCells z m).toList = (List.range (m * z.size)).map fun j => z[j % z.size]! := by simp [Builtin.zeroCells]
  have e2 : (madeCells z (m * z.size)).toList = (List.range (m * z.size)).map fun j => z[j % z.size]! := by simp [madeCells]
  rw [e2] at this
  rw [e]
  exact this

def putBlk (w : World) (b : Nat) (o : Obj) : World := { w with heap := w.heap.setIfInBounds b o }
/- a map, rewritten -/
theorem map_step (R : Rel P w0 ρ H W) {i c c' : Nat} {es es' : List MapEntry} {L : Loc} (hi : H[i]? = some (.map es c)) (hL : ρ i = some L) {ES : Array MapEntry} (hes : cvEs ρ es' ES.toList) :
    Step P w0 ρ ρ H (H.set i (.map es' c')) W (putBlk W L.blk (.map ES c')) := by
  have hlo := (R.lo i L hL).2
  obtain ⟨hg, _⟩ := R.obj i _ L hi hL
  refine set_step R hi trivial hL (by simp [putBlk]) (fun b hb => ?_) ⟨rfl, rfl, rfl⟩ ⟨hg, ES, ?_, hes⟩
  · simp [putBlk, Array.getElem?_setIfInBounds, Ne.symm hb]
  · simp [putBlk, hlo]

theorem cvEs_append : ∀ {l m l' m' : List MapEntry}, cvEs ρ l l' → cvEs ρ m m' → cvEs ρ (l ++ m) (l' ++ m')
  | [], m, [], m', _, h => h
  | [], _, _ :: _, _, h, _ => h.elim
  | _ :: _, _, [], _, h, _ => h.elim
  | _ :: _, _, _ :: _, _, h, k => ⟨h.1, cvEs_append h.2 k⟩
theorem cvEs_modify {g g' : MapEntry → MapEntry} (hg : ∀ e f, cvE ρ e f → cvE ρ (g e) (g' f)) : ∀ {l l' : List MapEntry} (i : Nat), cvEs ρ l l' → cvEs ρ (l.modify i g) (l'.modify i g')
  | [], [], i, _ => by simp [cvEs]
  | [], _ :: _, _, h => h.elim
  | _ :: _, [], _, h => h.elim
  | e :: r, f :: s, 0, h => by simp only [List.modify_zero_cons]; exact ⟨hg e f h.1, h.2⟩
  | e :: r, f :: s, i + 1, h => by simp only [List.modify_succ_cons]; exact ⟨h.1, cvEs_modify hg i h.2⟩
theorem cvEs_erase : ∀ {l l' : List MapEntry} (i : Nat), cvEs ρ l l' → cvEs ρ (l.eraseIdx i) (l'.eraseIdx i)
  | [], [], i, _ => by simp [cvEs]
  | [], _ :: _, _, h => h.elim
  | _ :: _, [], _, h => h.elim
  | e :: r, f :: s, 0, h => h.2
  | e :: r, f :: s, i + 1, h => ⟨h.1, cvEs_erase i h.2⟩
theorem cvEs_get : ∀ {l l' : List MapEntry} (i : Nat), cvEs ρ l l' → (l[i]? = none ∧ l'[i]? = none) ∨ ∃ e f, l[i]? = some e ∧ l'[i]? = some f ∧ cvE ρ e f
  | [], [], i, _ => .inl (by simp)
  | [], _ :: _, _, h => h.elim
  | _ :: _, [], _, h => h.elim
  | e :: r, f :: s, 0, h => .inr ⟨e, f, rfl, rfl, h.1⟩
  | e :: r, f :: s, i + 1, h => by simpa using cvEs_get i h.2
theorem cvEs_find {p : MapEntry → Bool} (hp : ∀ e f, cvE ρ e f → p e = p f) : ∀ {l l' : List MapEntry}, cvEs ρ l l' → l'.findIdx? p = l.findIdx? p
  | [], [], _ => rfl
  | [], _ :: _, h => h.elim
  | _ :: _, [], h => h.elim
  | e :: r, f :: s, h => by
    rw [List.findIdx?_cons, List.findIdx?_cons, ← hp e f h.1, cvEs_find hp h.2]

/- the key that an entry has -/
theorem key_same {es : List MapEntry} {ES : Array MapEntry} (hc : cvEs ρ es ES.toList) (hs : ∀ e ∈ es, scal e.key = true) (j : Nat) (k : Value) : ((ES[j]?).map (·.key)).getD k = ((es[j]?).map (·.key)).getD k := by
  rcases cvEs_get j hc with ⟨h1, h2⟩ | ⟨e, f, h1, h2, h3⟩
  · have h2 : ES[j]? = none := by simpa using h2
    rw [h1, h2]
  · have h2 : ES[j]? = some f := by simpa using h2
    rw [h1, h2]
    have := h3.1
    rw [cv_scal ρ _ (hs e (List.mem_of_getElem? h1)), Option.some.injEq] at this
    simp [this]
theorem stays_run {o k : Value} (h : Instr.sameBits 10000 o k = true) : (Instr.keyThatStays o k).run P W = .ok k W := by simp [Instr.keyThatStays, h]

theorem amapUpdate_rel (R : Rel P w0 ρ H W) {t : TypeId} {m m' k k' v v' : Value} (h : amapUpdate P H t m k v = some H') (hm : cv ρ m = some m') (hk : cv ρ k = some k') (hv : cv ρ v = some v') :
    ∃ W', (Instr.mapUpdate t m' k' v').run P W = .ok () W' ∧ Step P w0 ρ ρ H H' W W' := by
  unfold amapUpdate at h
  split at h
  · rename_i kt et r hu
    obtain ⟨L, hL, rfl⟩ := cv_map_some hm
    split at h
    · rename_i es c hH
      obtain ⟨hg, ES, hW, hc⟩ := R.obj r _ L hH hL
      split at h
      · rename_i i x hf
        obtain ⟨rfl, ⟨u, hck⟩, hs, r', h1, h2⟩ := afind_rel hf hk hc
        rcases h2 with ⟨h2, _⟩ | ⟨j, y, y', h2, rfl, hy⟩
        · cases h2
        · cases h2
          split at h
          · rename_i hsb
            cases h
            rw [← key_same hc hs] at hsb
            have hes : cvEs ρ (es.modify i fun e => { e with key := k', val := v }) (ES.modify i fun e => { e with key := k', val := v' }).toList := by
              rw [Array.toList_modify]
              refine cvEs_modify ?_ i hc
              exact fun e f he => ⟨hk, hv, he.2.2⟩
            refine ⟨_, ?_, map_step R hH hL hes⟩
            simp [Instr.mapUpdate, run_underlying hu, run_getObj_map hW, pv_run hck, pv_run h1, stays_run hsb, MapKept.run_setObj_map _ hW, putBlk]
          · cases h
      · rename_i hf
        obtain ⟨rfl, ⟨u, hck⟩, hs, r', h1, h2⟩ := afind_rel hf hk hc
        rcases h2 with ⟨_, rfl⟩ | ⟨j, y, y', h2, _⟩
        · cases h
          have hes : cvEs ρ (es ++ [{ key := k', val := v, born := c }]) (ES.push { key := k', val := v', born := c }).toList := by
            rw [Array.toList_push]
            exact cvEs_append hc ⟨⟨hk, hv, rfl⟩, trivial⟩
          refine ⟨_, ?_, map_step R hH hL hes⟩
          simp [Instr.mapUpdate, run_underlying hu, run_getObj_map hW, pv_run hck, pv_run h1, MapKept.run_setObj_map _ hW, putBlk]
        · cases h2
      · cases h
    · cases h
  · cases h

theorem amapEntry_rel (R : Rel P w0 ρ H W) {t : TypeId} {m m' k k' v : Value} (h : amapEntry P H t m k = some (v, H')) (hm : cv ρ m = some m') (hk : cv ρ k = some k') :
    ∃ v' W', cv ρ v = some v' ∧ (Instr.mapEntry t m' k').run P W = .ok v' W' ∧ Step P w0 ρ ρ H H' W W' := by
  unfold amapEntry at h
  split at h
  · rename_i kt et r hu
    obtain ⟨L, hL, rfl⟩ := cv_map_some hm
    split at h
    · rename_i es c hH
      obtain ⟨hg, ES, hW, hc⟩ := R.obj r _ L hH hL
      split at h
      · rename_i i x hf
        obtain ⟨rfl, ⟨u, hck⟩, hs, r', h1, h2⟩ := afind_rel hf hk hc
        rcases h2 with ⟨h2, _⟩ | ⟨j, y, y', h2, rfl, hy⟩
        · cases h2
        · cases h2
          split at h
          · rename_i hsb
            cases h
            rw [← key_same hc hs] at hsb
            have hes : cvEs ρ (es.modify i fun e => { e with key := k' }) (ES.modify i fun e => { e with key := k' }).toList := by
              rw [Array.toList_modify]
              refine cvEs_modify ?_ i hc
              exact fun e f he => ⟨hk, he.2.1, he.2.2⟩
            have hb : (Option.map (fun x : MapEntry => (x.born : Int)) ES[i]?).getD 0 = (Option.map (fun x : MapEntry => (x.born : Int)) es[i]?).getD 0 := by
              rcases cvEs_get i hc with ⟨h1, h2⟩ | ⟨e, f, h1, h2, h3⟩
              · have h2 : ES[i]? = none := by simpa using h2
                rw [h1, h2]
              · have h2 : ES[i]? = some f := by simpa using h2
                rw [h1, h2]
                simp [h3.2.2]
            refine ⟨.tuple #[y', .int .i64 (((es[i]?).map (·.born)).getD 0)], _, cv_tuple_mk (cvL_cons.2 ⟨_, _, hy, by simp [cvL, cv], rfl⟩), ?_, map_step R hH hL hes⟩
            rw [← hb]
            simp [Instr.mapEntry, run_underlying hu, run_getObj_map hW, pv_run hck, pv_run h1, stays_run hsb, MapKept.run_setObj_map _ hW, putBlk, goInt]
          · cases h
      · rename_i hf
        obtain ⟨rfl, ⟨u, hck⟩, hs, r', h1, h2⟩ := afind_rel hf hk hc
        rcases h2 with ⟨_, rfl⟩ | ⟨j, y, y', h2, _⟩
        · rw [Option.map_eq_some_iff] at h
          obtain ⟨z, hz, h⟩ := h
          cases h
          have hzs := cv_scal ρ z (azero_zero hz).2
          have hes : cvEs ρ (es ++ [{ key := k', val := z, born := c }]) (ES.push { key := k', val := z, born := c }).toList := by
            rw [Array.toList_push]
            exact cvEs_append hc ⟨⟨hk, hzs, rfl⟩, trivial⟩
          refine ⟨.tuple #[z, .int .i64 c], _, cv_tuple_mk (cvL_cons.2 ⟨_, _, hzs, by simp [cvL, cv], rfl⟩), ?_, map_step R hH hL hes⟩
          simp [Instr.mapEntry, run_underlying hu, run_getObj_map hW, pv_run hck, pv_run h1, run_zero hz, MapKept.run_setObj_map _ hW, putBlk, goInt]
        · cases h2
      · cases h
    · cases h
  · cases h

theorem aentryStore_rel (R : Rel P w0 ρ H W) {t : TypeId} {m m' k k' v v' : Value} (h : aentryStore H m k v = some H') (hm : cv ρ m = some m') (hk : cv ρ k = some k') (hv : cv ρ v = some v') :
    ∃ W', (Instr.entryStore t m' k' v').run P W = .ok () W' ∧ Step P w0 ρ ρ H H' W W' := by
  unfold aentryStore at h
  split at h
  · rename_i r kk b
    obtain ⟨L, hL, rfl⟩ := cv_map_some hm
    have := cv_int hk
    subst this
    split at h
    · rename_i es c hH
      obtain ⟨hg, ES, hW, hc⟩ := R.obj r _ L hH hL
      split at h
      · rename_i i hi
        cases h
        have hes : cvEs ρ (es.modify i fun e => { e with val := v }) (ES.modify i fun e => { e with val := v' }).toList := by
          rw [Array.toList_modify]
          refine cvEs_modify ?_ i hc
          exact fun e f he => ⟨he.1, hv, he.2.2⟩
        have hi' : ES.findIdx? (fun e => (e.born : Int) == b) = some i := by
          have := cvEs_find (p := fun e => (e.born : Int) == b) (fun e f he => by rw [he.2.2]) hc
          rw [hi, ← List.findIdx?_toArray] at this
          exact this
        refine ⟨_, ?_, map_step R hH hL hes⟩
        simp [Instr.entryStore, run_getObj_map hW, asInt, asIntOf, hi', MapKept.run_setObj_map _ hW, putBlk]
      · cases h
    · cases h
  · cases h

theorem adelete_rel (R : Rel P w0 ρ H W) {ts : Array TypeId} {ty : TypeId} {l l' : List Value} {v : Value} (h : adelete P H ts l = some (v, H')) (hl : cvL ρ l = some l') :
    ∃ v' W', cv ρ v = some v' ∧ (Builtin.delete_ ts ty ⟨l'⟩).run P W = .ok v' W' ∧ Step P w0 ρ ρ H H' W W' := by
  unfold adelete at h
  split at h
  · rename_i t r k ht
    obtain ⟨m', r1, hm, hr, rfl⟩ := cvL_cons.1 hl
    obtain ⟨k', r2, hk, hr2, rfl⟩ := cvL_cons.1 hr
    simp only [cvL, Option.some.injEq] at hr2
    subst hr2
    obtain ⟨L, hL, rfl⟩ := cv_map_some hm
    split at h
    · rename_i kt et hu
      split at h
      · rename_i es c hH
        obtain ⟨hg, ES, hW, hc⟩ := R.obj r _ L hH hL
        have he : ES.isEmpty = es.isEmpty := by have := cvEs_isEmpty hc; simpa using this
        split at h
        · rename_i i x hf
          obtain ⟨rfl, ⟨u, hck⟩, hs, r', h1, h2⟩ := afind_rel hf hk hc
          rw [← he] at hck
          rcases h2 with ⟨h2, _⟩ | ⟨j, y, y', h2, rfl, hy⟩
          · cases h2
          · cases h2
            cases h
            have hes : cvEs ρ (es.eraseIdx i) (ES.eraseIdxIfInBounds i).toList := by
              rw [Array.toList_eraseIdxIfInBounds]
              exact cvEs_erase i hc
            refine ⟨undef, _, cv_undef _, ?_, map_step R hH hL hes⟩
            simp [Builtin.delete_, ht, run_underlying hu, run_getObj_map hW, pv_run hck, pv_run h1, MapKept.run_setObj_map _ hW, putBlk, undef]
        · rename_i hf
          obtain ⟨rfl, ⟨u, hck⟩, hs, r', h1, h2⟩ := afind_rel hf hk hc
          rw [← he] at hck
          rcases h2 with ⟨_, rfl⟩ | ⟨j, y, y', h2, _⟩
          · cases h
            have hset : H = H.set r (.map es c) := by
              obtain ⟨h1, h2⟩ := List.getElem?_eq_some_iff.1 hH
              rw [← h2, List.set_getElem_self]
            refine ⟨undef, _, cv_undef _, ?_, by
              have := map_step (c' := c) R hH hL hc
              rwa [← hset] at this⟩
            simp [Builtin.delete_, ht, run_underlying hu, run_getObj_map hW, pv_run hck, pv_run h1, MapKept.run_setObj_map _ hW, putBlk, undef]
          · cases h2
        · cases h
      · cases h
    · cases h
  · cases h

theorem aclear_rel (R : Rel P w0 ρ H W) {ts : Array TypeId} {ty : TypeId} {l l' : List Value} {v : Value} (h : aclear P H ts l = some (v, H')) (hl : cvL ρ l = some l') :
    ∃ v' W', cv ρ v = some v' ∧ (Builtin.clear_ ts ty ⟨l'⟩).run P W = .ok v' W' ∧ Step P w0 ρ ρ H H' W W' := by
  unfold aclear at h
  split at h
  · rename_i t x ht
    obtain ⟨x', r1, hx, hr, rfl⟩ := cvL_cons.1 hl
    simp only [cvL, Option.some.injEq] at hr
    subst hr
    split at h
    · rename_i d hu
      cases h
      have := cv_map_none hx
      subst this
      exact ⟨undef, W, cv_undef _, by simp [Builtin.clear_, ht, run_underlying hu, undef], Step.refl R⟩
    · rename_i d m c hu
      cases h
      have := cv_slice_none hx
      subst this
      exact ⟨undef, W, cv_undef _, by simp [Builtin.clear_, ht, run_underlying hu, undef], Step.refl R⟩
    · rename_i e x m c hu
      split at h
      · rename_i hm
        cases h
        subst hm
        obtain ⟨d, c', rfl⟩ := cv_slice_some hx
        exact ⟨undef, W, cv_undef _, by simp [Builtin.clear_, ht, run_underlying hu, undef], Step.refl R⟩
      · rename_i hm
        split at h
        · rename_i z hz
          rw [Option.map_eq_some_iff] at h
          obtain ⟨H2, hp, h⟩ := h
          cases h
          obtain ⟨d, c', W', rfl, h1, h2⟩ := put_slice R hx hp (zeroCells_scal _ _ (scal_cells (azero_zero hz).2))
          refine ⟨undef, W', cv_undef _, ?_, h2⟩
          unfold Builtin.clear_
          cases m with
          | zero => exact (hm rfl).elim
          | succ m => simp [ht, run_underlying hu, run_zero hz, h1, undef]
        · cases h
    · rename_i kt et r hu
      obtain ⟨L, hL, rfl⟩ := cv_map_some hx
      split at h
      · rename_i es c hH
        cases h
        obtain ⟨hg, ES, hW, hc⟩ := R.obj r _ L hH hL
        refine ⟨undef, _, cv_undef _, ?_, map_step (ES := #[]) R hH hL trivial⟩
        simp [Builtin.clear_, ht, run_underlying hu, run_getObj_map hW, MapKept.run_setObj_map _ hW, putBlk, undef]
      · cases h
    · cases h
  · cases h

/- the next entry of a map, whichever it is -/
theorem cvEs_mem : ∀ {l : List MapEntry} {m : List MapEntry} {E : MapEntry}, cvEs ρ l m → E ∈ m → ∃ e ∈ l, cvE ρ e E
  | [], [], _, _, h => by cases h
  | [], _ :: _, _, h, _ => h.elim
  | _ :: _, [], _, h, _ => h.elim
  | e :: r, f :: s, E, h, hm => by
    rcases List.mem_cons.1 hm with rfl | hm
    · exact ⟨e, by simp, h.1⟩
    · obtain ⟨x, hx, hx2⟩ := cvEs_mem h.2 hm
      exact ⟨x, by simp [hx], hx2⟩
theorem cvEs_born : ∀ {l : List MapEntry} {m : List MapEntry}, cvEs ρ l m → m.map (·.born) = l.map (·.born)
  | [], [], _ => rfl
  | [], _ :: _, h => h.elim
  | _ :: _, [], h => h.elim
  | e :: r, f :: s, h => by simp only [List.map_cons, cvEs_born h.2, h.1.2.2]
theorem next_map_rel (R : Rel P w0 ρ H W) {r m since clk last : Nat} {seen : List Nat} {es : List MapEntry} {L : Loc} (ty : TypeId) (hr : H[r]? = some (.miter (some m) since seen last)) (hm : H[m]? = some (.map es clk)) (hL : ρ r = some L) (hold : ∀ e ∈ es, e.born < since) (hsc : since ≤ last) :
    ((es.filter fun e => !seen.contains e.born) = [] ∧ (Instr.next (.pointer (some ⟨L.blk, 0, none⟩)) false ty).run P W = .ok (.tuple #[.bool false]) W) ∨
    ∃ e ∈ es.filter (fun e => !seen.contains e.born), ∃ v' W', cv ρ (.tuple #[.bool true, e.key, e.val]) = some v' ∧ (Instr.next (.pointer (some ⟨L.blk, 0, none⟩)) false ty).run P W = .ok v' W' ∧ Step P w0 ρ ρ H (H.set r (.miter (some m) since (seen ++ [e.born]) clk)) W W' := by
  obtain ⟨hg, M, ⟨K, hK, rfl⟩, hW⟩ := R.obj r _ L hr hL
  obtain ⟨hg2, ES, hWm, hes⟩ := R.obj m _ K hm hK
  have hb : ∀ E ∈ ES.toList, E.born < since := fun E hE => by
    obtain ⟨e, he, h1, h2, h3⟩ := cvEs_mem hes hE
    have := hold e he
    omega
  rcases run_next_at (P := P) W ty L.blk K.blk since last seen.toArray ES clk hW hWm hb hsc with ⟨h1, h2⟩ | ⟨E, hE, w1, hw1, h2⟩
  · left
    refine ⟨?_, h2⟩
    unfold leftOf at h1
    rw [List.filter_eq_nil_iff]
    intro e he hq
    have hbe : e.born ∈ ES.toList.map (·.born) := by rw [cvEs_born hes]; exact List.mem_map.2 ⟨e, he, rfl⟩
    obtain ⟨E, hE, hEb⟩ := List.mem_map.1 hbe
    have hin : E ∈ ES.filter fun e => !seen.toArray.contains e.born := by
      rw [Array.mem_filter]
      refine ⟨by simpa using hE, ?_⟩
      rw [hEb]
      simpa using hq
    have := Array.size_pos_of_mem hin
    omega
  · right
    unfold leftOf at hE
    have hE' : E ∈ ES ∧ (!seen.toArray.contains E.born) = true := by
      rw [Array.mem_toList_iff, Array.mem_filter] at hE
      exact hE
    obtain ⟨e, he, hk, hv, hbn⟩ := cvEs_mem hes (by simpa using hE'.1)
    refine ⟨e, ?_, .tuple #[.bool true, E.key, E.val], _, ?_, h2, ?_⟩
    · rw [List.mem_filter]
      refine ⟨he, ?_⟩
      have := hE'.2
      rw [← hbn] at this
      simpa using this
    · refine cv_tuple_mk ?_
      simp only
      exact cvL_cons.2 ⟨_, _, by simp [cv], cvL_cons.2 ⟨_, _, hk, cvL_cons.2 ⟨_, _, hv, rfl, rfl⟩, rfl⟩, rfl⟩
    · have hlo := (R.lo r L hL).2
      have hh : w1.heap = W.heap ∧ w1.tape = W.tape ∧ w1.os = W.os ∧ w1.output = W.output := by rcases hw1 with rfl | rfl <;> exact ⟨rfl, rfl, rfl, rfl⟩
      refine set_step R hr trivial hL (by simp [ChangeMaps.setBlock, hh.1]) (fun b hb => by simp [ChangeMaps.setBlock, hh.1, Array.getElem?_setIfInBounds, Ne.symm hb]) ⟨hh.2.1, hh.2.2.1, hh.2.2.2⟩ ⟨hg, some K.blk, ⟨K, hK, rfl⟩, ?_⟩
      simp [ChangeMaps.setBlock, hh.1, Array.getElem?_setIfInBounds, hlo, hbn]

theorem anext_rel (R : Rel P w0 ρ H W) {it it' v : Value} {isS : Bool} {ty : TypeId} (h : anext H it isS = some (v, H')) (hi : cv ρ it = some it') :
    ∃ v' W', cv ρ v = some v' ∧ (Instr.next it' isS ty).run P W = .ok v' W' ∧ Step P w0 ρ ρ H H' W W' := by
  unfold anext at h
  split at h
  · rename_i r
    obtain ⟨c, rfl, hc⟩ := cv_ptr_some hi
    simp only [cvAddr, Option.map_eq_some_iff] at hc
    obtain ⟨L, hL, rfl⟩ := hc
    split at h
    · rename_i s pos hH
      obtain ⟨hg, hW⟩ := R.obj r _ L hH hL
      have hlo := (R.lo r L hL).2
      have hget : (getObj L.blk).run P W = .ok (.stringIter s pos) W := by simp [getObj, Sem.run, hW]
      split at h
      · rename_i hp
        cases h
        have S : Step P w0 ρ ρ H (H.set r (.siter s (pos + (Utf8.decode s pos).2))) W (putBlk W L.blk (.stringIter s (pos + (Utf8.decode s pos).2))) :=
          set_step R hH trivial hL (by simp [putBlk]) (fun b hb => by simp [putBlk, Array.getElem?_setIfInBounds, Ne.symm hb]) ⟨rfl, rfl, rfl⟩ ⟨hg, by simp [putBlk, hlo]⟩
        refine ⟨.tuple #[.bool true, .int .i64 pos, .int .i32 (Utf8.decode s pos).1], _, cv_tuple_mk (by simp [cvL, cv]), ?_, S⟩
        simp [Instr.next, hget, hp, setObj, Sem.run, hW, putBlk, goInt]
      · rename_i hp
        cases h
        refine ⟨.tuple #[.bool false], W, cv_tuple_mk (by simp [cvL, cv]), ?_, Step.refl R⟩
        simp [Instr.next, hget, hp]
    · cases h
      obtain ⟨hg, M, rfl, hW⟩ := R.obj r _ L (by assumption) hL
      refine ⟨.tuple #[.bool false], W, cv_tuple_mk (by simp [cvL, cv]), ?_, Step.refl R⟩
      simp [Instr.next, getObj, Sem.run, hW]
    · rename_i m since seen last hH
      split at h
      · rename_i es clk hm
        split at h
        · rename_i hall
          simp only [Bool.and_eq_true, List.all_eq_true, decide_eq_true_eq] at hall
          rcases next_map_rel (P := P) R ty hH hm hL hall.1 hall.2 with ⟨h1, h2⟩ | ⟨e, he, v', W', h1, h2, h3⟩
          · rw [h1] at h
            cases h
            exact ⟨.tuple #[.bool false], W, cv_tuple_mk (by simp [cvL, cv]), h2, Step.refl R⟩
          · split at h
            · rename_i hnil; rw [hnil] at he; cases he
            · rename_i e' hone
              rw [hone] at he
              cases h
              have : e = e' := by simpa using he
              subst this
              exact ⟨v', W', h1, h2, h3⟩
            · cases h
        · cases h
      · cases h
    · cases h
  · cases h

theorem arange_rel (R : Rel P w0 ρ H W) {t : TypeId} {x x' v : Value} (h : arange P H t x = some (v, H')) (hx : cv ρ x = some x') (hf : Fresh ρ H H') :
    ∃ ρ' v' W', cv ρ' v = some v' ∧ (Instr.range t x').run P W = .ok v' W' ∧ Step P w0 ρ ρ' H H' W W' := by
  unfold arange at h
  split at h
  · rename_i k e hu
    cases h
    simp only [cv, Option.some.injEq] at hx
    subst hx
    have S := push_step R (g := none) (obj := .mapIter none 0 #[] 0) (ob := .miter none 0 [] 0) (W' := W.alloc (.mapIter none 0 #[] 0)) hf rfl ⟨rfl, rfl, rfl⟩ ⟨rfl, none, rfl, rfl⟩
    exact ⟨_, _, _, by simp [cv, cvAddr, plus], run_range_nilMap W t k e hu, S⟩
  · rename_i k e m hu
    simp only [cv, Option.map_eq_some_iff] at hx
    obtain ⟨K, hK, rfl⟩ := hx
    split at h
    · rename_i es c hm
      cases h
      obtain ⟨hg2, ES, hWm, hes⟩ := R.obj m _ K hm hK
      have S := push_step R (g := none) (obj := .mapIter (some K.blk) c #[] c) (ob := .miter (some m) c [] c) (W' := W.alloc (.mapIter (some K.blk) c #[] c)) hf rfl ⟨rfl, rfl, rfl⟩ ⟨rfl, some K.blk, ⟨K, hK, rfl⟩, rfl⟩
      exact ⟨_, _, _, by simp [cv, cvAddr, plus], run_range_map W t k e K.blk ES c hu hWm, S⟩
    · cases h
  · cases h
end Go.Am
/- The abstract machine beside the model's: append. -/
namespace Go.Am
variable {P : Program} {w0 : World} {ρ ρ' : Ren} {H H' : AH} {W W' : World} {n : Nat} {T : Fr} {a : Act}

theorem kill_step (R : Rel P w0 ρ H W) {i : Nat} {o : AObj} (hi : H[i]? = some o) (ha : alive o) : Step P w0 ρ ρ H (H.set i .dead) W W := by
  refine ⟨by simp, fun _ _ => rfl, fun j M h1 h2 => by simp at h2; omega, fun j h => ?_, ⟨R.size, R.base, R.lo, ?_, ?_⟩, Nat.le_refl _, fun _ _ _ => rfl, rfl, rfl, rfl⟩
  · by_cases e : j = i
    · subst e; rw [hi] at h; cases h; exact ha.elim
    · rw [List.getElem?_set_ne (Ne.symm e)]; exact h
  · intro j k q r M N h1 h2 h3 h4 h5 h6 h7
    rcases get_set hi h1 with ⟨_, rfl⟩ | ⟨_, h1⟩
    · exact h3.elim
    · rcases get_set hi h2 with ⟨_, rfl⟩ | ⟨_, h2⟩
      · exact h4.elim
      · exact R.inj j k q r M N h1 h2 h3 h4 h5 h6 h7
  · intro j q M h1 h2
    rcases get_set hi h1 with ⟨_, rfl⟩ | ⟨_, h1⟩
    · trivial
    · exact R.obj j q M h1 h2

/- an object takes a new name; it is written on the way -/
theorem rename_step (R : Rel P w0 ρ H W) {i : Nat} {o o' : AObj} {L : Loc} (hi : H[i]? = some o) (ha : alive o) (hL : ρ i = some L) (hf : ρ H.length = none) (hsz : W'.heap.size = W.heap.size)
    (hoth : ∀ b, b ≠ L.blk → W'.heap[b]? = W.heap[b]?) (henv : W'.tape = W.tape ∧ W'.os = W.os ∧ W'.output = W.output) (hobj : ObjRel P ρ o' L W'.heap[L.blk]?) :
    Step P w0 ρ (plus ρ H.length L) H (H.set i .dead ++ [o']) W W' := by
  have hlo := R.lo i L hL
  have hl := plus_le (L := L) hf
  have hilt := (List.getElem?_eq_some_iff.1 hi).1
  have same : ∀ j, j ≠ H.length → plus ρ H.length L j = ρ j := fun j hj => by simp [plus, hj]
  have here : plus ρ H.length L H.length = some L := by simp [plus]
  have split : ∀ (j : Nat) (q : AObj), (H.set i .dead ++ [o'])[j]? = some q → (j < H.length ∧ j ≠ i ∧ H[j]? = some q) ∨ (j = i ∧ q = .dead) ∨ (j = H.length ∧ q = o') := by
    intro j q h
    by_cases hj : j < H.length
    · rw [List.getElem?_append_left (by simpa using hj)] at h
      rcases get_set hi h with h | h
      · exact .inr (.inl h)
      · exact .inl ⟨hj, h⟩
    · rw [List.getElem?_append_right (by simp; omega)] at h
      have : j - (H.set i .dead).length = 0 := by
        have := (List.getElem?_eq_some_iff.1 h).1
        simp at this
        simp
        omega
      rw [this] at h
      simp at h this
      exact .inr (.inr ⟨by omega, h.symm⟩)
  refine ⟨by simp, fun j hj => same j (by simp at hj; omega), fun j M h1 h2 h3 => ?_, fun j h => ?_, ⟨by rw [hsz]; exact R.size, fun b hb => ?_, fun j M h => ?_, ?_, ?_⟩, by omega, fun b hb hn => ?_, henv⟩
  · have : j = H.length := by simp at h2; omega
    subst this
    rw [here] at h3
    cases h3
    exact .inr ⟨i, o, L, hi, ha, hL, rfl⟩
  · have hj := (List.getElem?_eq_some_iff.1 h).1
    rw [List.getElem?_append_left (by simpa using hj)]
    by_cases e : j = i
    · subst e; rw [hi] at h; cases h; exact ha.elim
    · rw [List.getElem?_set_ne (Ne.symm e)]; exact h
  · rw [hoth b (by omega)]; exact R.base b hb
  · rw [hsz]
    by_cases hj : j = H.length
    · subst hj; rw [here] at h; cases h; exact hlo
    · rw [same j hj] at h; exact R.lo j M h
  · intro j k q r M N h1 h2 h3 h4 h5 h6 h7
    rcases split j q h1 with ⟨hj, hji, h1⟩ | ⟨rfl, rfl⟩ | ⟨hj, rfl⟩
    · rw [same j (by omega)] at h5
      rcases split k r h2 with ⟨hk, hki, h2⟩ | ⟨rfl, rfl⟩ | ⟨hk, rfl⟩
      · rw [same k (by omega)] at h6
        exact R.inj j k q r M N h1 h2 h3 h4 h5 h6 h7
      · exact h4.elim
      · subst hk
        rw [here] at h6
        cases h6
        exact (hji (R.inj j i q o M L (by assumption) hi h3 ha h5 hL h7)).elim
    · exact h3.elim
    · subst hj
      rw [here] at h5
      cases h5
      rcases split k r h2 with ⟨hk, hki, h2⟩ | ⟨rfl, rfl⟩ | ⟨hk, rfl⟩
      · rw [same k (by omega)] at h6
        exact (hki (R.inj k i r o N L h2 hi h4 ha h6 hL h7.symm)).elim
      · exact h4.elim
      · exact hk.symm
  · intro j q M h1 h2
    rcases split j q h1 with ⟨hj, hji, h1⟩ | ⟨rfl, rfl⟩ | ⟨hj, rfl⟩
    · rw [same j (by omega)] at h2
      by_cases hq : alive q
      · have : M.blk ≠ L.blk := fun e => hji (R.inj j i q o M L h1 hi hq ha h2 hL e)
        rw [hoth _ this]
        exact (R.obj j q M h1 h2).mono hl
      · cases q <;> first | exact (hq trivial).elim | trivial
    · trivial
    · subst hj
      rw [here] at h2
      cases h2
      exact hobj.mono hl
  · exact hoth b (fun e => hn i o L hi ha hL e.symm)

theorem splice_tail : ∀ (A B news : List Value), B.length = news.length → splice (A ++ B) A.length news = A ++ news
  | A, B, [], h => by
    have : B = [] := List.length_eq_zero_iff.1 h
    subst this
    rfl
  | A, [], _ :: _, h => by simp at h
  | A, b :: B, v :: r, h => by
    have h' : B.length = r.length := by simpa using h
    have := splice_tail (A ++ [v]) B r h'
    simp only [splice]
    rw [List.set_append_right _ _ (Nat.le_refl _), Nat.sub_self]
    simpa using this

/- what append's second argument yields -/
inductive Yld (P : Program) (W : World) (e xt : TypeId) (size bytes : Nat) (x : Value) (m : Nat) (news : List Value) : Prop where
  | plain (d : TypeDesc) (hd : P.underlying xt = some d) (hk : ∀ k, d ≠ .int k) (len : ∀ w, (Builtin.lenOf x).run P w = .ok m w)
      (cells : (Builtin.firstCells size m x).run P W = .ok news.toArray W) (cellsD : (Builtin.firstCells size m x).run P W.drew = .ok news.toArray W.drew)
  | made (k kx : IntKind) (l : Int) (z : Value) (hd : P.underlying xt = some (.int k)) (hx : x = .int kx l) (h0 : 0 ≤ l) (h63 : l < 2 ^ 63) (hb : l * bytes ≤ 2 ^ 47) (hm : m = l.toNat) (hz : azero P e = some z)
      (hn : news = (Builtin.zeroCells z.cells m).toList)

theorem zeroCells_none (z : Array Value) (m : Nat) (h : m * z.size = 0) : (Builtin.zeroCells z m).toList = [] := by simp [Builtin.zeroCells, h]

section
variable {e t xt ty : TypeId} {i : TypeInfo} {ts : Array TypeId} {x : Value} {m : Nat} {news : List Value} {base : Option Addr} {sLen sCap : Nat}

theorem notInt (d : TypeDesc) (hk : ∀ k, d ≠ .int k) : (d matches .int _) = false := by
  cases d <;> first | rfl | exact (hk _ rfl).elim

theorem app_room (h0 : ts[0]? = some t) (h1 : ts[1]? = some xt) (hu : P.underlying t = some (.slice e)) (hi : P.info? e = some i) (hs0 : i.size ≠ 0) (hY : Yld P W e xt i.size i.bytes x m news)
    (hroom : sLen + m ≤ sCap) (hst : ∀ b, base = some b → (storeCells (b.add (sLen * i.size)) news).run P W = .ok () W') (hnone : base = none → W' = W) :
    (Builtin.append_ ts ty ⟨[.slice base sLen sCap, x]⟩).run P W = .ok (.slice base (sLen + m) sCap) W' := by
  have hsr : ∀ w, (sizeOf e).run P w = .ok i.size w := pv_run (by rw [pv_sizeOf, asize, hi]; rfl)
  have hti : ∀ w, (typeInfo e).run P w = .ok i w := pv_run (by rw [pv_typeInfo, hi])
  cases hY with
  | plain d hd hk len cells cellsD =>
    have hmat := notInt d hk
    cases base with
    | none => simp [Builtin.append_, h0, h1, run_underlying hu, run_underlying hd, hmat, hsr, len, hroom, cells, hnone rfl]
    | some b => simp [Builtin.append_, h0, h1, run_underlying hu, run_underlying hd, hmat, hsr, len, hroom, cells, hst b rfl]
  | made k kx l z hd hx hl0 h63 hb hm hz hn =>
    subst hx
    subst hm
    have wl : IntKind.i64.wrap l = l := by rw [IntKind.wrap_i64]; omega
    have n1 : ¬ l < 0 := by omega
    have n2 : ¬ (281474976710656 < l * (i.bytes : Int)) := by omega
    by_cases hc : l.toNat * i.size = 0
    · have h0' : l.toNat = 0 := by rcases Nat.mul_eq_zero.1 hc with h | h <;> omega
      have : news = [] := by rw [hn]; exact zeroCells_none _ _ (by rw [h0']; simp)
      subst this
      rw [h0'] at hroom ⊢
      cases base with
      | none => simp [Builtin.append_, h0, h1, run_underlying hu, run_underlying hd, hsr, hti, asInt, asIntOf, wl, n1, n2, h0', hroom, hnone rfl] at hroom ⊢
                intro hlt; omega
      | some b =>
        have := hst b rfl
        simp [Builtin.append_, h0, h1, run_underlying hu, run_underlying hd, hsr, hti, asInt, asIntOf, wl, n1, n2, h0', this] at hroom ⊢
        intro hlt; omega
    · cases base with
      | none => simp [Builtin.append_, h0, h1, run_underlying hu, run_underlying hd, hsr, hti, asInt, asIntOf, wl, n1, n2, hc, run_zero hz, hroom, hnone rfl]
      | some b =>
        have := hst b rfl
        rw [hn] at this
        simp [Builtin.append_, h0, h1, run_underlying hu, run_underlying hd, hsr, hti, asInt, asIntOf, wl, n1, n2, hc, run_zero hz, hroom, this]

theorem app_grow (h0 : ts[0]? = some t) (h1 : ts[1]? = some xt) (hu : P.underlying t = some (.slice e)) (hi : P.info? e = some i) (hs0 : i.size ≠ 0) (hb0 : i.bytes ≠ 0) {z : Value} (hz : azero P e = some z) (hY : Yld P W e xt i.size i.bytes x m news)
    (hgr : sCap < sLen + m) (hbytes : (sLen + m) * i.bytes ≤ 2 ^ 47) {olds : List Value} (hold : (Builtin.firstCells i.size sLen (.slice base sLen sCap)).run P W.drew = .ok olds.toArray W.drew) :
    (Builtin.append_ ts ty ⟨[.slice base sLen sCap, x]⟩).run P W = .ok (.slice (some ⟨W.heap.size, 0, none⟩) (sLen + m) (grownCap W (sLen + m) sCap e))
      (W.drew.alloc (.cells ((olds ++ news).toArray ++ Builtin.zeroCells z.cells (grownCap W (sLen + m) sCap e - (sLen + m))) e)) := by
  have hsr : ∀ w, (sizeOf e).run P w = .ok i.size w := pv_run (by rw [pv_sizeOf, asize, hi]; rfl)
  have hti : ∀ w, (typeInfo e).run P w = .ok i w := pv_run (by rw [pv_typeInfo, hi])
  have hn : ¬ (sLen + m ≤ sCap) := by omega
  have hle : sLen + m ≤ (sLen + m) * i.bytes := Nat.le_mul_of_pos_right _ (by omega)
  have h63' : ¬ (9223372036854775807 < ((sLen : Int) + (m : Int))) := by omega
  have hfit := growslice_fits (need := sLen + m) (old := sCap) (bytes := i.bytes) hgr (by simpa using hbytes)
  have h48' : ¬ (281474976710656 < Builtin.nextslicecap (sLen + m) sCap * i.bytes) := by omega
  cases hY with
  | plain d hd hk len cells cellsD =>
    have hmat := notInt d hk
    simp [Builtin.append_, h0, h1, run_underlying hu, run_underlying hd, hmat, hsr, hti, len, hn, h63', h48', Question.forced, cellsD, hold, newRow, grownCap, run_zero hz]
    congr 2
    apply Array.ext'
    simp [List.append_assoc]
  | made k kx l z' hd hx hl0 h63 hb hm hz' hnews =>
    rw [hz] at hz'
    cases hz'
    subst hx
    subst hm
    have wl : IntKind.i64.wrap l = l := by rw [IntKind.wrap_i64]; omega
    have n1 : ¬ l < 0 := by omega
    have n2 : ¬ (281474976710656 < l * (i.bytes : Int)) := by omega
    have hmx : max l 0 = l := by omega
    have hlt : ((l.toNat : Nat) : Int) = l := by omega
    rw [hlt] at h63'
    by_cases hc : l.toNat * i.size = 0
    · have h0' : l.toNat = 0 := by rcases Nat.mul_eq_zero.1 hc with h | h <;> omega
      have : news = [] := by rw [hnews]; exact zeroCells_none _ _ (by rw [h0']; simp)
      subst this
      have hl0' : l = 0 := by omega
      subst hl0'
      simp at hn h63' h48' hold
      have hn2 : ¬ sLen ≤ sCap := by omega
      have h63i : ¬ (9223372036854775807 < (sLen : Int)) := by omega
      have h48i : ¬ (281474976710656 < Builtin.nextslicecap sLen sCap * i.bytes) := by omega
      simp [Builtin.append_, h0, h1, run_underlying hu, run_underlying hd, hsr, hti, asInt, asIntOf, wl, hn2, h63i, h48i, Question.forced, hold, newRow, grownCap, run_zero hz]
    · simp [Builtin.append_, h0, h1, run_underlying hu, run_underlying hd, hsr, hti, asInt, asIntOf, wl, n1, n2, hmx, hc, hn, h63', h48', Question.forced, hold, newRow, grownCap, run_zero hz, hnews]
      congr 2
      apply Array.ext'
      simp [List.append_assoc]
end

/- a new row that may grow -/
theorem grow_new (R : Rel P w0 ρ H W) {e : TypeId} {cs all : List Value} {rest : Array Value} {size k cap : Nat} (hsz : asize P e = some size) (hs0 : size ≠ 0) (hf : Fresh ρ H (H ++ [.cells cs e true]))
    (hc : cvL ρ cs = some all) (hl : all.length = k * size) (hr : rest.size = (cap - k) * size) (hk : k ≤ cap) :
    ∃ ρ', Step P w0 ρ ρ' H (H ++ [.cells cs e true]) W (W.drew.alloc (.cells (all.toArray ++ rest) e)) ∧ cv ρ' (.slice (some ⟨H.length, 0, none⟩) k k) = some (.slice (some ⟨W.heap.size, 0, none⟩) k cap) := by
  have hsize : (all.toArray ++ rest).size = cap * size := by
    rw [Array.size_append, hr]
    simp only [List.size_toArray, hl]
    rw [← Nat.add_mul]
    congr 1
    omega
  have hcl := cvL_length hc
  have S := push_step R (g := some ((all.toArray ++ rest).size, P.cellsOf e)) (obj := .cells (all.toArray ++ rest) e) (W' := W.drew.alloc (.cells (all.toArray ++ rest) e)) hf rfl (env_drew_alloc _)
    ⟨_, _, rfl, not_frozen0, by
      simp only [if_true, true_and]
      rw [hsize, ← hcl, hl]
      exact Nat.mul_le_mul_right _ hk, by
      rw [hc, ← hcl]
      simp⟩
  refine ⟨_, S, ?_⟩
  have hd : cap * size / size = cap := Nat.mul_div_cancel _ (by omega)
  simp only [cv, cvSlice, plus, if_true, hsize, asize_cells hsz, Nat.sub_zero, hd, if_pos hk]

theorem zeroCells_size (z : Array Value) (m : Nat) : (Builtin.zeroCells z m).size = m * z.size := by simp [Builtin.zeroCells]

section
variable {e t xt ty : TypeId} {i : TypeInfo} {ts : Array TypeId} {x : Value} {m : Nat} {news xs : List Value} {z s s' v : Value}
theorem appendTo_rel (R : Rel P w0 ρ H W) (h0 : ts[0]? = some t) (h1 : ts[1]? = some xt) (hu : P.underlying t = some (.slice e)) (hi : P.info? e = some i) (hs0 : i.size ≠ 0) (hb0 : i.bytes ≠ 0) (hz : azero P e = some z) (hzs : z.cells.size = i.size)
    (hY : Yld P W e xt i.size i.bytes x m news) (hxs : cvL ρ xs = some news) (hxl : xs.length = m * i.size) (hs : cv ρ s = some s') (h : aappendTo w0 H e i.size i.bytes s m xs = some (v, H')) (hf : Fresh ρ H H') :
    ∃ ρ' v' W', cv ρ' v = some v' ∧ (Builtin.append_ ts ty ⟨[s', x]⟩).run P W = .ok v' W' ∧ Step P w0 ρ ρ' H H' W W' := by
  have hsz : asize P e = some i.size := by simp [asize, hi]
  have hnl := cvL_length hxs
  have hm0 : m = 0 → news = [] := by
    intro h
    rw [h, Nat.zero_mul] at hxl
    rw [hxl] at hnl
    exact List.length_eq_zero_iff.1 hnl
  -- growing: the old cells in front
  have grow : ∀ (base : Option Addr) (k cap : Nat) (old olds : List Value) (H1 H2 : AH) (v : Value), Step P w0 ρ ρ H H1 W W → H1.length = H.length → agrow H1 e i.bytes (k + m) (old ++ xs) = some (v, H2) → Fresh ρ H H2 → cap < k + m →
      cvL ρ old = some olds → olds.length = k * i.size → (Builtin.firstCells i.size k (.slice base k cap)).run P W.drew = .ok olds.toArray W.drew →
      ∃ ρ' v' W', cv ρ' v = some v' ∧ (Builtin.append_ ts ty ⟨[.slice base k cap, x]⟩).run P W = .ok v' W' ∧ Step P w0 ρ ρ' H H2 W W' := by
    intro base k cap old olds H1 H2 v S0 hlen hg hf hcap ho hol hof
    unfold agrow at hg
    split at hg
    · rename_i hb
      cases hg
      have hr := app_grow (ts := ts) (ty := ty) h0 h1 hu hi hs0 hb0 hz hY hcap (by simpa using hb) hof
      have hall : cvL ρ (old ++ xs) = some (olds ++ news) := cvL_append ho hxs
      have hge := grownCap_ge W (k + m) cap e
      obtain ⟨ρ', S, hc⟩ := grow_new S0.rel (k := k + m) (cap := grownCap W (k + m) cap e) (rest := Builtin.zeroCells z.cells (grownCap W (k + m) cap e - (k + m))) hsz hs0 (fun j a b => hf j (by omega) b) hall
        (by rw [List.length_append, hol, hnl, hxl, ← Nat.add_mul]) (by rw [zeroCells_size, hzs]) hge
      exact ⟨ρ', _, _, hc, hr, S0.trans S⟩
    · cases hg
  unfold aappendTo at h
  split at h
  · have := cv_slice_none hs
    subst this
    split at h
    · rename_i hm
      cases h
      subst hm
      have hn := hm0 rfl
      subst hn
      exact ⟨ρ, .slice none 0 0, W, rfl, app_room h0 h1 hu hi hs0 hY (Nat.le_refl _) (fun b hb => by cases hb) (fun _ => rfl), Step.refl R⟩
    · refine grow none 0 0 [] [] H H' v (Step.refl R) rfl (by simpa using h) hf (by omega) rfl (by simp) ?_
      simp [Builtin.firstCells]
  · rename_i b k c
    have exact_ : ∀ (L : Nat) (hbk : (ρ b.block).map (fun L => (⟨L.blk, b.off, none⟩ : Addr)) = some ⟨L, b.off, none⟩ ∧ (b.spot = none ∨ b.spot = some 2) ∨ b.spot = some 0 ∧ L = b.block) (hs' : s' = .slice (some ⟨L, b.off, none⟩) k c)
        (h : (if k + m ≤ c then (putCells H (aadd b (k * i.size)) xs).map fun H' => (Value.slice (some b) (k + m) c, H') else
          match (if k = 0 then some [] else acells w0 H b (k * i.size)) with | some old => agrow H e i.bytes (k + m) (old ++ xs) | none => none) = some (v, H'))
        (hres : cv ρ (.slice (some b) (k + m) c) = some (.slice (some ⟨L, b.off, none⟩) (k + m) c)),
        ∃ ρ' v' W', cv ρ' v = some v' ∧ (Builtin.append_ ts ty ⟨[s', x]⟩).run P W = .ok v' W' ∧ Step P w0 ρ ρ' H H' W W' := by
      intro L hbk hs' h hres
      subst hs'
      split at h
      · rename_i hroom
        rw [Option.map_eq_some_iff] at h
        obtain ⟨H2, hp, h⟩ := h
        cases h
        have key : ∃ W', (storeCells (⟨L, b.off + k * i.size, none⟩) news).run P W = .ok () W' ∧ Step P w0 ρ ρ H H' W W' := by
          by_cases hnil : xs = []
          · subst hnil
            cases hp
            simp only [cvL, Option.some.injEq] at hxs
            subst hxs
            exact ⟨W, rfl, Step.refl R⟩
          · rcases hbk with ⟨hbk, _⟩ | ⟨hsp, _⟩
            · rw [Option.map_eq_some_iff] at hbk
              obtain ⟨M, hM, hML⟩ := hbk
              cases hML
              exact putCells_rel R hp (by simp [aadd, hM]) hxs
            · rcases putCells_spot hp with ⟨h1, _⟩ | h1
              · exact (hnil h1).elim
              · exact (h1 hsp).elim
        obtain ⟨W', h2, h3⟩ := key
        refine ⟨ρ, _, W', hres, app_room h0 h1 hu hi hs0 hY hroom (fun q hq => ?_) (fun hq => by cases hq), h3⟩
        cases hq
        rw [add_plain]
        exact h2
      · rename_i hroom
        by_cases hk : k = 0
        · subst hk
          simp only [if_true] at h
          refine grow _ 0 c [] [] H H' v (Step.refl R) rfl h hf (by omega) rfl (by simp) ?_
          simp [Builtin.firstCells, loadCells_zero]
        · simp only [hk, if_false] at h
          cases hac : acells w0 H b (k * i.size) with
          | none => rw [hac] at h; cases h
          | some old =>
            rw [hac] at h
            have hbk' : (ρ b.block).map (fun L => (⟨L.blk, b.off, none⟩ : Addr)) = some ⟨L, b.off, none⟩ ∧ (b.spot = none ∨ b.spot = some 2) ∨ b.spot = some 0 ∧ (⟨L, b.off, none⟩ : Addr) = ⟨b.block, b.off, none⟩ := by
              rcases hbk with h | ⟨h1, h2⟩
              · exact .inl h
              · exact .inr ⟨h1, by rw [h2]⟩
            obtain ⟨olds, e1, e2, e3, e4⟩ := acells_rel R hac hbk'
            refine grow _ k c old olds H H' v (Step.refl R) rfl h hf (by omega) e1 e2 ?_
            exact firstCells_run (W := W.drew) e2 e3 rfl
    dsimp only at h
    split at h
    · rename_i hsp
      simp only [cv, cvSlice, hsp, Option.some.injEq] at hs
      subst hs
      exact exact_ b.block (.inr ⟨hsp, rfl⟩) rfl h (by simp [cv, cvSlice, hsp])
    · rename_i hsp
      simp only [cv, cvSlice, hsp] at hs
      split at hs
      · cases hs
      · rename_i L hL
        cases hs
        exact exact_ L.blk (.inl ⟨by simp [hL], .inr hsp⟩) rfl h (by simp [cv, cvSlice, hsp, hL])
    · rename_i hsp
      split at h
      · rename_i cs e2 hH
        simp only [cv, cvSlice, hsp] at hs
        split at hs
        · cases hs
        · rename_i L hL
          obtain ⟨C, fr, hC, hfr, hle, hg, hcv⟩ := R.row hH hL
          simp only [Bool.false_eq_true, if_false] at hg
          rw [hg.1] at hs
          cases hs
          exact exact_ L.blk (.inl ⟨by simp [hL], .inl hsp⟩) rfl h (by simp [cv, cvSlice, hsp, hL, hg.1])
      · rename_i cs e2 hH
        simp only [cv, cvSlice, hsp] at hs
        split at hs
        · cases hs
        · rename_i L hL
          obtain ⟨C, fr, hC, hfr, hle, hg, hcv⟩ := R.row hH hL
          simp only [if_true] at hg
          rw [hg] at hs
          simp only at hs
          split at hs
          · rename_i hkc
            cases hs
            split at h
            · rename_i hm
              cases h
              subst hm
              have hn := hm0 rfl
              subst hn
              refine ⟨ρ, .slice (some ⟨L.blk, b.off, none⟩) k ((C.size - b.off) / P.cellsOf e2), W, ?_, app_room h0 h1 hu hi hs0 hY hkc (fun q hq => rfl) (fun hq => by cases hq), Step.refl R⟩
              simp only [cv, cvSlice, hsp, hL, hg, if_pos hkc]
            · rename_i hm
              split at h
              · rename_i hcond
                obtain ⟨hoff, hlen, rfl, hbytes, hall⟩ := hcond
                cases h
                have hce : P.cellsOf e2 = i.size := asize_cells hsz
                rw [hoff, Nat.sub_zero, hce] at hkc ⊢
                have hfr' : ρ H.length = none := hf _ (Nat.le_refl _) (by simp)
                by_cases hroom : k + m ≤ C.size / i.size
                · -- in place
                  have hCs : (k + m) * i.size ≤ C.size := Nat.le_trans (Nat.mul_le_mul_right _ hroom) (Nat.div_mul_le_self _ _)
                  have hCs' : k * i.size + m * i.size ≤ C.size := by rw [← Nat.add_mul]; exact hCs
                  obtain ⟨e1, e3, e4, e5⟩ := setCells_heap L.blk news (k * i.size) W C e2 fr hC
                  have hone : ∀ u ∈ news, u.oneCell' = true := one_of_cellV hall hxs
                  have hst := run_storeCells_cells (P := P) L.blk (k * i.size) news 0 W (fun j hj => by
                      have hlt : k * i.size + j < C.size := by omega
                      simp [World.cell?, hC, hlt]) (fun j hj => by
                      have hlt : k * i.size + j < C.size := by omega
                      have := hfr _ hlt
                      simp [World.frozen?, hC]
                      omega) hone
                  rw [Nat.add_zero] at hst
                  refine ⟨plus ρ H.length L, .slice (some ⟨L.blk, 0, none⟩) (k + m) (C.size / i.size), _, ?_, app_room h0 h1 hu hi hs0 hY hroom (fun q hq => ?_) (fun hq => by cases hq),
                    rename_step R (o' := .cells (cs ++ xs) e2 true) hH trivial hL hfr' e4 e3 e5 ?_⟩
                  · simp only [cv, cvSlice, plus, if_true, hg, hce, Nat.sub_zero, if_pos hroom]
                  · cases hq
                    rw [add_plain, Nat.zero_add]
                    exact hst
                  · rw [e1]
                    refine ⟨_, fr, rfl, fun off ho => hfr off (by rwa [spliceA_size] at ho), ?_, ?_⟩
                    · simp only [if_true, spliceA_size]
                      refine ⟨hg, ?_⟩
                      rw [List.length_append, ← hlen, hxl]
                      exact hCs'
                    · rw [spliceA_toList, List.length_append, ← hlen, hxl]
                      have hnn : news.length = m * i.size := by rw [hnl, hxl]
                      have htl : (C.toList.take (k * i.size)).length = k * i.size := by rw [List.length_take, Array.length_toList]; omega
                      rw [splice_take, List.take_add]
                      have := splice_tail (C.toList.take (k * i.size)) ((C.toList.drop (k * i.size)).take (m * i.size)) news (by simp; omega)
                      rw [htl] at this
                      rw [this]
                      rw [← hlen] at hcv
                      exact cvL_append hcv hxs
                · -- a new array
                  have hlen' : (C.toList.take cs.length).length = k * i.size := by rw [List.length_take, Array.length_toList, hlen]; exact Nat.min_eq_left hle
                  have hcells : CellsAt W L.blk 0 (C.toList.take cs.length) := by
                    have := cells_of_heap (off := 0) (m := cs.length) hC
                    simpa using this
                  refine grow (some ⟨L.blk, 0, none⟩) k (C.size / i.size) cs (C.toList.take cs.length) (H.set b.block .dead) _ _ (kill_step R hH trivial) (by simp) ?_ hf (Nat.lt_of_not_le hroom) hcv hlen' ?_
                  · unfold agrow
                    rw [if_pos hbytes]
                    simp
                  · exact firstCells_run (W := W.drew) hlen' hcells rfl
              · cases h
          · cases hs
      · cases h
    · cases h
  · cases h
end
end Go.Am
/- The abstract machine beside the model's: every operation that makes no call. -/
namespace Go.Am
variable {P : Program} {w0 : World} {ρ ρ' : Ren} {H H' : AH} {W W' : World} {n : Nat} {T : Fr} {a : Act}

theorem aappend_rel (R : Rel P w0 ρ H W) {ts : Array TypeId} {ty : TypeId} {l l' : List Value} {v : Value} (h : aappend P w0 H ts l = some (v, H')) (hl : cvL ρ l = some l') (hf : Fresh ρ H H') :
    ∃ ρ' v' W', cv ρ' v = some v' ∧ (Builtin.append_ ts ty ⟨l'⟩).run P W = .ok v' W' ∧ Step P w0 ρ ρ' H H' W W' := by
  unfold aappend at h
  split at h
  · rename_i t xt s x h0 h1
    obtain ⟨s', r1, hs, hr, rfl⟩ := cvL_cons.1 hl
    obtain ⟨x', r2, hx, hr2, rfl⟩ := cvL_cons.1 hr
    simp only [cvL, Option.some.injEq] at hr2
    subst hr2
    split at h
    · rename_i e hu
      split at h
      · rename_i i z hi hz
        split at h
        · cases h
        · rename_i hc
          have hs0 : i.size ≠ 0 := fun q => hc (.inl q)
          have hb0 : i.bytes ≠ 0 := fun q => hc (.inr (.inl q))
          have hzs : z.cells.size = i.size := by
            by_cases q : z.cells.size = i.size
            · exact q
            · exact (hc (.inr (.inr q))).elim
          split at h
          · rename_i k hd
            split at h
            · rename_i kx lx
              have := cv_int hx
              subst this
              split at h
              · rename_i hb
                have hzc := zeroCells_scal (ρ := ρ) z.cells lx.toNat (scal_cells (azero_zero hz).2)
                have hlen : (Builtin.zeroCells z.cells lx.toNat).toList.length = lx.toNat * i.size := by rw [Array.length_toList, zeroCells_size, hzs]
                exact appendTo_rel R h0 h1 hu hi hs0 hb0 hz hzs (.made k kx lx z hd rfl hb.1 hb.2.1 hb.2.2 rfl hz rfl) hzc hlen hs h hf
              · cases h
            · cases h
          · rename_i d hk hd
            split at h
            · rename_i m xs hsrc
              split at h
              · rename_i hxl
                have key : ∃ news, cvL ρ xs = some news ∧ (∀ w, (Builtin.lenOf x').run P w = .ok m w) ∧ (Builtin.firstCells i.size m x').run P W = .ok news.toArray W ∧ (Builtin.firstCells i.size m x').run P W.drew = .ok news.toArray W.drew := by
                  unfold asrc at hsrc
                  split at hsrc
                  · split at hsrc
                    · rename_i hn
                      cases hsrc
                      subst hn
                      have := cv_slice_none hx
                      subst this
                      exact ⟨[], rfl, fun _ => rfl, rfl, rfl⟩
                    · cases hsrc
                  · rename_i b k c
                    split at hsrc
                    · rename_i hn
                      cases hsrc
                      subst hn
                      obtain ⟨d', c', rfl⟩ := cv_slice_some hx
                      exact ⟨[], rfl, fun _ => rfl, by simp [Builtin.firstCells, loadCells_zero], by simp [Builtin.firstCells, loadCells_zero]⟩
                    · rw [Option.map_eq_some_iff] at hsrc
                      obtain ⟨cells, hac, hsrc⟩ := hsrc
                      cases hsrc
                      obtain ⟨d', c', news, rfl, e1, e2, e3, e4⟩ := src_cells R hx hac
                      exact ⟨news, e1, fun _ => rfl, firstCells_run e2 e3 e4, firstCells_run (W := W.drew) e2 e3 e4⟩
                  · rename_i bs
                    cases hsrc
                    have := cv_string hx
                    subst this
                    have ht : bs.data.toList.take bs.size = bs.data.toList := List.take_of_length_le (by rw [Array.length_toList]; exact Nat.le_refl _)
                    have e1 := byteVals_take (P := P) (W := W) bs i.size bs.size
                    have e2 := byteVals_take (P := P) (W := W.drew) bs i.size bs.size
                    rw [ht] at e1 e2
                    exact ⟨_, cvL_map (fun b : UInt8 => Value.int .u8 b.toNat) _ _ (fun x _ => rfl), fun _ => rfl, e1, e2⟩
                  · cases hsrc
                obtain ⟨news, e1, e2, e3, e4⟩ := key
                exact appendTo_rel R h0 h1 hu hi hs0 hb0 hz hzs (.plain d hd (fun k he => hk k he) e2 e3 e4) e1 hxl hs h hf
              · cases h
            · cases h
          · cases h
      · cases h
    · cases h
  · cases h

theorem awrite_rel (R : Rel P w0 ρ H W) (hT : RelT ρ n T a.tmps) {o : Oper} (hok : operOk n o = true) {v : Value} (h : awrite P w0 o T H = some (v, H')) (hf : Fresh ρ H H') :
    ∃ ρ' v' W', cv ρ' v = some v' ∧ Out ((execOp a.eval o).run P W) v' W' ∧ Step P w0 ρ ρ' H H' W W' := by
  have hop := operOk_ops hok
  have ev : ∀ x, x ∈ o.op.operands.toList → cv ρ (aev T x) = some (a.eval x) := fun x hx => hT.ev (hop x hx).1 (hop x hx).2
  obtain ⟨dst, op, ty, pos, after, guard⟩ := o
  have skip : ∀ {s : Sem Unit} {W'}, s.run P W = .ok () W' → Step P w0 ρ ρ H H' W W' → Out ((do s; pure .skip : Sem Next).run P W) undef W' := fun h _ => .inr ⟨rfl, by simp [h]⟩
  unfold awrite at h
  cases op <;> simp only [Op.operands] at h ev hop <;> try (cases h; done)
  case store t x y =>
    rw [Option.map_eq_some_iff] at h
    obtain ⟨H2, h, e⟩ := h
    cases e
    obtain ⟨W', h1, h2⟩ := astore_rel R h (ev x (by simp)) (ev y (by simp))
    exact ⟨ρ, undef, W', cv_undef _, skip h1 h2, h2⟩
  case mapUpdate t m k x =>
    rw [Option.map_eq_some_iff] at h
    obtain ⟨H2, h, e⟩ := h
    cases e
    obtain ⟨W', h1, h2⟩ := amapUpdate_rel R h (ev m (by simp)) (ev k (by simp)) (ev x (by simp))
    exact ⟨ρ, undef, W', cv_undef _, skip h1 h2, h2⟩
  case insert t m k x =>
    rw [Option.map_eq_some_iff] at h
    obtain ⟨H2, h, e⟩ := h
    cases e
    obtain ⟨W', h1, h2⟩ := amapUpdate_rel R h (ev m (by simp)) (ev k (by simp)) (ev x (by simp))
    exact ⟨ρ, undef, W', cv_undef _, skip h1 h2, h2⟩
  case mapEntry t m k =>
    obtain ⟨v', W', h0, h1, h2⟩ := amapEntry_rel R h (ev m (by simp)) (ev k (by simp))
    exact ⟨ρ, v', W', h0, .inl (by simp [execOp, h1]), h2⟩
  case entryStore t m s x =>
    rw [Option.map_eq_some_iff] at h
    obtain ⟨H2, h, e⟩ := h
    cases e
    obtain ⟨W', h1, h2⟩ := aentryStore_rel (t := t) R h (ev m (by simp)) (ev s (by simp)) (ev x (by simp))
    exact ⟨ρ, undef, W', cv_undef _, skip h1 h2, h2⟩
  case next it isS =>
    obtain ⟨v', W', h0, h1, h2⟩ := anext_rel (ty := ty) R h (ev it (by simp))
    exact ⟨ρ, v', W', h0, .inl (by simp [execOp, h1]), h2⟩
  case range t x =>
    obtain ⟨ρ', v', W', h0, h1, h2⟩ := arange_rel R h (ev x (by simp)) hf
    exact ⟨ρ', v', W', h0, .inl (by simp [execOp, h1]), h2⟩
  case call c =>
    obtain ⟨callee, args, argTypes⟩ := c
    cases callee <;> simp only at h <;> try (cases h; done)
    rename_i b
    have hargs := args_rel hT args.toList (fun x hx => hop x (by simp [Call.operands]; simpa using hx))
    rw [← Array.toList_map, ← Array.toList_map] at hargs
    have hl : (⟨(args.map a.eval).toList⟩ : Array Value) = args.map a.eval := rfl
    cases b <;> simp only at h <;> try (cases h; done)
    · obtain ⟨ρ', v', W', h0, h1, h2⟩ := aappend_rel (ty := ty) R h hargs hf
      exact ⟨ρ', v', W', h0, .inl (by simp [execOp, resolve, invoke, builtin, h1]), h2⟩
    · obtain ⟨v', W', h0, h1, h2⟩ := aclear_rel (ty := ty) R h hargs
      exact ⟨ρ, v', W', h0, .inl (by simp [execOp, resolve, invoke, builtin, h1]), h2⟩
    · obtain ⟨v', W', h0, h1, h2⟩ := acopy_rel (ty := ty) R h hargs
      exact ⟨ρ, v', W', h0, .inl (by simp [execOp, resolve, invoke, builtin, h1]), h2⟩
    · obtain ⟨v', W', h0, h1, h2⟩ := adelete_rel (ty := ty) R h hargs
      exact ⟨ρ, v', W', h0, .inl (by simp [execOp, resolve, invoke, builtin, h1]), h2⟩
end Go.Am
