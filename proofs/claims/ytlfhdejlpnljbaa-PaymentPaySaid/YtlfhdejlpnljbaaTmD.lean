/-
  How an operation of the model is turned into an instruction.
-/
import Derived.Test.YtlfhdejlpnljbaaTmB
set_option linter.unusedSimpArgs false
set_option linter.unusedVariables false
namespace Go.Tm

/-- Is the type an aggregate, and how many cells has it. -/
def shapeOf (P : Program) (t : TypeId) : Option (Bool × Nat) :=
  match P.underlying t, P.info? t with
  | some (.struct _), some i => some (true, i.size)
  | some (.array _ _), some i => some (true, i.size)
  | some _, some i => some (false, i.size)
  | _, _ => none

/-- A type's zero value, if it is of simple cells. -/
def zeroOf (P : Program) (t : TypeId) : Option Value :=
  match P.info? t with
  | some i =>
    match i.zero with
    | some z => if z.cells.all one = true ∧ z.cells.size = i.size ∧ 0 < i.size then some z else none
    | none => none
  | none => none

def partsOf (places : List (Nat × Nat)) : List (Nat × Operand) → Option (List (Nat × Nat × Operand))
  | [] => some []
  | (i, x) :: ps =>
    match places[i]?, partsOf places ps with
    | some (off, n), some r => some ((off, n, x) :: r)
    | _, _ => none

/-- The kinds of a struct's cells, where all are simple and lie one behind the other. -/
def eqPlan (P : Program) : List Field → Nat → Option (List Nat)
  | [], _ => some []
  | f :: fs, off =>
    if f.name ≠ "_" ∧ f.offset = off then
      match P.underlying f.type, eqPlan P fs (off + 1) with
      | some (.int _), some ks => some (0 :: ks)
      | some .bool, some ks => some (1 :: ks)
      | some .string, some ks => some (2 :: ks)
      | _, _ => none
    else none

def keyKind (P : Program) (t : TypeId) : Option Nat :=
  match P.underlying t with
  | some (.int .i64) => some 0
  | some .string => some 2
  | _ => none

def compI (P : Program) : Op → Option I
  | .move x => some (.mv x)
  | .assign x => some (.mv x)
  | .pick c a b => some (.pick c a b)
  | .alloc t => (zeroOf P t).map fun z => .alloc z.cells.size (leaf z)
  | .box t x => some (.box (P.cellsOf t) x)
  | .build t ps =>
    match P.underlying t, zeroOf P t with
    | some (.struct fs), some z =>
      match fs.toList.mapM fun f => (P.info? f.type).map fun i => (f.offset, i.size) with
      | some places => (partsOf places ps.toList).map fun r => .build (z.cells.toList.map .v) r
      | none => none
    | some (.array _ e), some z => (P.info? e).map fun i => .build (z.cells.toList.map .v) (ps.toList.map fun (k, x) => (k * i.size, i.size, x))
    | _, _ => none
  | .buildSlice t n ps =>
    match P.underlying t with
    | some (.slice e) =>
      match zeroOf P e with
      | some z => if n * z.cells.size ≤ 2 ^ 24 then some (.bslice z.cells.size n (leaf z) ps.toList) else none
      | none => none
    | _ => none
  | .load t x => (shapeOf P t).map fun r => .load r.1 r.2 x
  | .store t x y => (P.info? t).map fun i => .store i.size x y
  | .nilCheck x => some (.nilc x)
  | .binOp op t x y _ =>
    match P.underlying t with
    | some .bool => if op = .eql then some (.beq false x y) else if op = .neq then some (.beq true x y) else none
    | some (.struct fs) =>
      if (op = .eql ∨ op = .neq) ∧ P.stoodInHeld t = false ∧ P.eqGuardType P.depth t = false then
        match eqPlan P fs.toList 0 with
        | some ks => some (.ceq (decide (op = .neq)) ks x y)
        | none => none
      else none
    | some _ => some (.bin op x y)
    | none => none
  | .unOp op _ x => some (.un op x)
  | .convert s d x =>
    match P.underlying s, P.underlying d with
    | some (.int _), some (.int k) => some (.conv k x)
    | some (.slice _), some (.slice e) =>
      match P.underlying e, P.info? e with
      | some (.int .u8), some i => if s = d then some (.strb i.size x) else none
      | _, _ => none
    | _, _ => none
  | .makeFunc (.func f) first caps => some (.mkfunc f first.toList caps.toList)
  | .makeSlice t l c =>
    match P.underlying t with
    | some (.slice e) =>
      match zeroOf P e with
      | some z => some (.mkslice z.cells.size (P.bytesOf e) (leaf z) l c)
      | none => none
    | _ => none
  | .slice t x lo hi mx =>
    match P.underlying t with
    | some (.slice e) => if mx.isSome && hi.isNone then none else (P.info? e).map fun i => .slice i.size x lo hi mx
    | some .string => if mx.isSome then none else some (.sslice x lo hi)
    | _ => none
  | .fieldAddr s x f =>
    match P.underlying s with
    | some (.struct fs) =>
      match fs[f]? with
      | some fl =>
        match shapeOf P fl.type with
        | some r => if r.2 ≠ 0 then some (.faddr r.1 r.2 fl.offset x) else none
        | none => none
      | none => none
    | _ => none
  | .field s x f =>
    match P.underlying s with
    | some (.struct fs) =>
      match fs[f]? with
      | some fl => (shapeOf P fl.type).map fun r => .field r.1 r.2 fl.offset x
      | none => none
    | _ => none
  | .indexAddr t x i =>
    match P.underlying t with
    | some (.slice e) => (P.info? e).map fun j => .iaddr j.size x i
    | some (.array n e) => (shapeOf P e).map fun r => .aaddr r.1 r.2 n x i
    | _ => none
  | .index t x i =>
    match P.underlying t with
    | some (.array n e) => (shapeOf P e).map fun r => .index r.1 r.2 n x i
    | some .string => some (.sidx x i)
    | _ => none
  | .extract x i => some (.extract x i)
  | .panic _ => some .fail
  | .makeMap _ none => some .mkmap
  | .lookup t x k ok =>
    match P.underlying t with
    | some (.map kt et) =>
      match keyKind P kt, zeroOf P et with
      | some K, some z => some (.mlook K ok (leaf z) x k)
      | _, _ => none
    | _ => none
  | .mapUpdate t m k x =>
    match P.underlying t with
    | some (.map kt _) => (keyKind P kt).map fun K => .mput K m k x
    | _ => none
  | .call c =>
    match c.callee, c.args.toList, c.argTypes.toList with
    | .builtin .len, [x], [t] =>
      match P.underlying t with
      | some (.slice _) => some (.len x)
      | some .string => some (.slen x)
      | some (.map _ _) => some (.mlen x)
      | _ => none
    | .builtin .max, xs, _ => some (.mm true xs)
    | .builtin .min, xs, _ => some (.mm false xs)
    | .builtin .append, [x, y], [t, u] =>
      match P.underlying t, P.underlying u with
      | some (.slice e), some (.slice _) =>
        if t = u then
          match P.info? e, zeroOf P e with
          | some i, some _ => if 0 < i.bytes then some (.append i.size i.bytes x y) else none
          | _, _ => none
        else none
      | _, _ => none
    | _, _, _ => none
  | _ => none

/-- One operation of a region, in the engine's form: an instruction, or a call. -/
inductive RI where
  | op (dst : Option Tmp) (g : Option (Tmp × Bool)) (i : I)
  | call (dst : Option Tmp) (g : Option (Tmp × Bool)) (f : Operand) (args : List Operand)

def guardOf (ops : Array Oper) : Option (Nat × Bool) → Option (Option (Tmp × Bool))
  | none => some none
  | some (j, b) =>
    match (ops[j]?).bind (·.dst) with
    | some t => some (some (t, b))
    | none => none

def compOp (P : Program) (ops : Array Oper) (o : Oper) : Option RI :=
  match guardOf ops o.guard with
  | none => none
  | some g =>
    match o.op with
    | .call ⟨.value f, args, _⟩ => some (.call o.dst g f args.toList)
    | op => (compI P op).map fun i => .op o.dst g i

def compOps (P : Program) (ops : Array Oper) : List Oper → Option (List RI)
  | [] => some []
  | o :: l =>
    match compOp P ops o, compOps P ops l with
    | some r, some rs => some (r :: rs)
    | _, _ => none

def tmpOf : Operand → List Tmp
  | .tmp t => [t]
  | _ => []

def optOf : Option Operand → List Tmp
  | some x => tmpOf x
  | none => []

/-- The slots that an instruction reads. -/
def I.reads : I → List Tmp
  | .mv x | .un _ x | .conv _ x | .box _ x | .load _ _ x | .nilc x | .faddr _ _ _ x | .field _ _ _ x | .extract x _ | .len x | .slen x => tmpOf x
  | .pick c a b => tmpOf c ++ tmpOf a ++ tmpOf b
  | .bin _ x y | .beq _ x y | .store _ x y | .iaddr _ x y | .aaddr _ _ _ x y | .index _ _ _ x y | .append _ _ x y | .mkslice _ _ _ x y => tmpOf x ++ tmpOf y
  | .alloc _ _ => []
  | .build _ ps => ps.flatMap fun p => tmpOf p.2.2
  | .bslice _ _ _ ps => ps.flatMap fun p => tmpOf p.2
  | .slice _ x a b c => tmpOf x ++ optOf a ++ optOf b ++ optOf c
  | .mkfunc _ a b => a.flatMap tmpOf ++ b.flatMap tmpOf
  | .fail => []
  | .mm _ xs => xs.flatMap tmpOf
  | .ceq _ _ x y => tmpOf x ++ tmpOf y
  | .strb _ x => tmpOf x
  | .sidx x i => tmpOf x ++ tmpOf i
  | .sslice x a b => tmpOf x ++ optOf a ++ optOf b
  | .mkmap => []
  | .mlook _ _ _ x k => tmpOf x ++ tmpOf k
  | .mput _ m k x => tmpOf m ++ tmpOf k ++ tmpOf x
  | .mlen x => tmpOf x

/-- 0: asks nothing of the resources; 1: reads them; 2: makes one; 3: changes them. -/
def I.cls : I → Nat
  | .load .. | .slice .. | .iaddr .. | .len _ | .mlook .. | .mlen _ => 1
  | .alloc .. | .box .. | .bslice .. | .mkslice .. | .mkmap => 2
  | .store .. | .append .. | .strb .. | .mput .. => 3
  | _ => 0

def RI.dst : RI → Option Tmp
  | .op d _ _ => d
  | .call d _ _ _ => d

def gReads : Option (Tmp × Bool) → List Tmp
  | some (t, _) => [t]
  | none => []

def RI.reads : RI → List Tmp
  | .op _ g i => gReads g ++ i.reads
  | .call _ g f args => gReads g ++ tmpOf f ++ args.flatMap tmpOf

def RI.cls : RI → Nat
  | .op _ _ i => i.cls
  | .call .. => 1

/-- The operations that an operation waits for, as bits. -/
def maskOf (acc : List Nat) (b : List Nat) : Nat := b.foldl (fun s e => s ||| 2 ^ e ||| acc.getD e 0) 0

def masksFrom (acc : List Nat) : List (List Nat) → List Nat
  | [] => acc
  | b :: bs => masksFrom (acc ++ [maskOf acc b]) bs

def masks (bs : List (List Nat)) : List Nat := masksFrom [] bs

/-- Two operations that must not change places. -/
def clash (x y : RI) : Bool :=
  (match x.dst with
   | some t => y.reads.contains t || y.dst == some t
   | none => false) ||
  (match y.dst with
   | some t => x.reads.contains t
   | none => false) ||
  (x.cls == 2 && y.cls == 2)

/-- The first q operations may change places as the text's edges let them; the others come after all. -/
def drawOk (bs : List (List Nat)) (rl : List RI) (q : Nat) : Bool :=
  let ms := masks bs
  bs.length == rl.length && (q ≤ rl.length) &&
  ((List.range bs.length).all fun i => (bs.getD i []).all fun e => decide (e < i)) &&
  ((List.range rl.length).all fun j => match rl[j]? with
    | none => false
    | some y => if j < q then decide (y.cls ≤ 2) && (List.range j).all fun i => match rl[i]? with
        | none => false
        | some x => !clash x y || (ms.getD j 0).testBit i
      else (List.range j).all fun i => (ms.getD j 0).testBit i)

/-- The operations from q on wait for all that stand ahead of them; at each cut, all that come behind wait for all that stand ahead. -/
def tailOk (bs : List (List Nat)) (rl : List RI) (cuts : List Nat) (q : Nat) : Bool :=
  let ms := masks bs
  (cuts.all fun p => (List.range rl.length).all fun j => decide (j < p) || (List.range p).all fun i => (ms.getD j 0).testBit i) &&
  bs.length == rl.length && (q ≤ rl.length) &&
  ((List.range bs.length).all fun i => (bs.getD i []).all fun e => decide (e < i)) &&
  ((List.range rl.length).all fun j => decide (j < q) || (List.range j).all fun i => (ms.getD j 0).testBit i)

/-- How many of the first operations may change places. -/
def qOf (bs : List (List Nat)) (n : Nat) : Nat :=
  let ms := masks bs
  (List.range n).foldl (fun q j => if (List.range j).all (fun i => (ms.getD j 0).testBit i) then q else j + 1) 0

/-- The places where all that comes behind waits for all that stands ahead. -/
def cutsOf (bs : List (List Nat)) (n q : Nat) : List Nat :=
  let ms := masks bs
  (List.range q).filter fun p => decide (0 < p) && (List.range n).all fun j => decide (j < p) || (List.range p).all fun i => (ms.getD j 0).testBit i

/-- A function's code in the engine's form. -/
inductive C where
  | skip
  | reg (l : List RI)
  | draw (q : Nat) (l : List RI)
  | any (cuts : List Nat) (q : Nat) (bs : List (List Nat)) (l : List RI)
  | seq (a b : C)
  | cond (c : Operand) (a b : C)
  | block (id : Nat) (a : C)
  | loop (a : C)
  | exit (id : Nat)
  | ret

def befores (ops : Array Oper) : List (List Nat) := ops.toList.map fun o => (o.after.toList.filter fun e => Region.binds .any e).map (·.on)

def comp (P : Program) : Code → Option C
  | .skip => some .skip
  | .region _ ops false => (compOps P ops ops.toList).map .reg
  | .region _ ops true =>
    match compOps P ops ops.toList with
    | some rl =>
      if drawOk (befores ops) rl (qOf (befores ops) rl.length) = true then some (.draw (qOf (befores ops) rl.length) rl)
      else if tailOk (befores ops) rl (cutsOf (befores ops) rl.length (qOf (befores ops) rl.length)) (qOf (befores ops) rl.length) = true then
        some (.any (cutsOf (befores ops) rl.length (qOf (befores ops) rl.length)) (qOf (befores ops) rl.length) (befores ops) rl) else none
    | none => none
  | .seq a b =>
    match comp P a, comp P b with
    | some x, some y => some (.seq x y)
    | _, _ => none
  | .cond c a b =>
    match comp P a, comp P b with
    | some x, some y => some (.cond c x y)
    | _, _ => none
  | .block id a => (comp P a).map (.block id)
  | .loop a => (comp P a).map .loop
  | .exit id => some (.exit id)
  | .ret => some .ret
  | .label _ => some .skip
  | _ => none

/-- What a function hands back. -/
inductive RV where
  | tmp (t : Tmp)
  | cell (A : Bool) (n : Nat) (a : Tmp)

structure Fun where
  ntmps : Nat
  results : List RV
  code : C

def compRV (P : Program) : ResultVar → Option RV
  | .tmp t => some (.tmp t)
  | .cell a t => (shapeOf P t).map fun r => .cell r.1 r.2 a

def compRVs (P : Program) : List ResultVar → Option (List RV)
  | [] => some []
  | r :: l =>
    match compRV P r, compRVs P l with
    | some x, some y => some (x :: y)
    | _, _ => none

def compF (P : Program) (f : FuncId) : Option Fun :=
  match P.funcs[f]? with
  | some fn =>
    match fn.body, compRVs P fn.results.toList with
    | some b, some r => (comp P b).map fun c => ⟨fn.ntmps, r, c⟩
    | _, _ => none
  | none => none
end Go.Tm
