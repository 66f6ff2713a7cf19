/-
  The engine's own instructions, what each does to trees, and how a function's code is turned into them.
-/
import Derived.Test.YtlfhdejlpnljbaaTmA
set_option linter.unusedSimpArgs false
set_option linter.unusedVariables false
namespace Go.Tm

/-- A computation that asks nothing of the world. -/
def pureRun {α : Type} : Sem α → Option α
  | .pure a => some a
  | _ => none

def D.cells : D → List D
  | .agg l => l
  | d => [d]

/-- The tree's values are of one cell, or an aggregate. -/
def D.ok : D → Bool
  | .v x => one x
  | .tup _ | .dead => false
  | _ => true

/-- The part of n cells from off on; an aggregate or one cell. -/
def part (A : Bool) (n off : Nat) (l : List D) : Option D :=
  match A with
  | true => if off + n ≤ l.length then some (.agg ((l.drop off).take n)) else none
  | false => l[off]?

/-- The cells from off on, replaced. -/
def splice (l : List D) (off : Nat) (r : List D) : List D := l.take off ++ r ++ l.drop (off + r.length)

/-- A tree whose cells from sub on are replaced. -/
def D.upd (old : D) (sub : Nat) (r : List D) : D :=
  match old with
  | .agg l => .agg (splice l sub r)
  | _ => r.headD .dead

/-- A constant value as a tree. -/
def leaf : Value → D
  | .agg cs => .agg (cs.toList.map .v)
  | x => .v x

inductive I where
  | mv (x : Operand)
  | pick (c a b : Operand)
  | bin (op : BinOp) (x y : Operand)
  | beq (neg : Bool) (x y : Operand)
  | un (op : UnOp) (x : Operand)
  | conv (k : IntKind) (x : Operand)
  | alloc (S : Nat) (z : D)
  | box (S : Nat) (x : Operand)
  | build (z : List D) (ps : List (Nat × Nat × Operand))
  | bslice (S : Nat) (n : Nat) (z : D) (ps : List (Nat × Operand))
  | load (A : Bool) (n : Nat) (x : Operand)
  | store (n : Nat) (x y : Operand)
  | nilc (x : Operand)
  | slice (S : Nat) (x : Operand) (lo hi mx : Option Operand)
  | faddr (A : Bool) (n off : Nat) (x : Operand)
  | field (A : Bool) (n off : Nat) (x : Operand)
  | iaddr (S : Nat) (x i : Operand)
  | aaddr (A : Bool) (S len : Nat) (x i : Operand)
  | index (A : Bool) (S len : Nat) (x i : Operand)
  | extract (x : Operand) (i : Nat)
  | len (x : Operand)
  | slen (x : Operand)
  | append (S bytes : Nat) (x y : Operand)
  | mkslice (S bytes : Nat) (z : D) (l c : Operand)
  | mkfunc (f : FuncId) (first caps : List Operand)
  | fail
  | mm (isMax : Bool) (xs : List Operand)
  | ceq (neg : Bool) (ks : List Nat) (x y : Operand)
  | strb (S : Nat) (x : Operand)
  | sidx (x i : Operand)
  | sslice (x : Operand) (lo hi : Option Operand)
  | mkmap
  | mlook (K : Nat) (ok : Bool) (z : D) (x k : Operand)
  | mput (K : Nat) (m k x : Operand)
  | mlen (x : Operand)

/-- What a slice holds: its elements of S cells each. -/
def contents (S : Nat) (m : List Ent) : D → Option (List D)
  | .v (.slice none 0 0) => some []
  | .sl S' l => if S' = S then some l else none
  | .own id ver =>
    match m[id]? with
    | some (.live S' ver' l) => if S' = S ∧ ver' = ver then some l else none
    | _ => none
  | .view id ver lo n =>
    match m[id]? with
    | some (.live S' ver' l) => if S' = S ∧ ver' = ver ∧ lo + n ≤ l.length then some ((l.drop lo).take n) else none
    | _ => none
  | _ => none

def lenOfD (m : List Ent) : D → Option Nat
  | .v (.slice none 0 0) => some 0
  | .sl _ l => some l.length
  | .own id ver =>
    match m[id]? with
    | some (.live _ ver' l) => if ver' = ver then some l.length else none
    | _ => none
  | .view id _ _ n =>
    match m[id]? with
    | some _ => some n
    | none => none
  | _ => none

def buildD (s : St) : List (Nat × Nat × Operand) → List D → Option (List D)
  | [], cells => some cells
  | (off, n, x) :: ps, cells =>
    if (s.ev x).ok = true ∧ (s.ev x).cells.length = n ∧ off + n ≤ cells.length then buildD s ps (splice cells off (s.ev x).cells) else none

def bsliceD (s : St) (S : Nat) : List (Nat × Operand) → List D → Option (List D)
  | [], l => some l
  | (i, x) :: ps, l =>
    if (s.ev x).ok = true ∧ (s.ev x).cells.length = S ∧ i < l.length then bsliceD s S ps (l.set i (s.ev x)) else none

/-- The bounds of a slice expression: low and high. -/
def bound (s : St) (d : Nat) : Option Operand → Option Nat
  | none => some d
  | some x =>
    match s.ev x with
    | .v (.int _ n) => if 0 ≤ n then some n.toNat else none
    | _ => none

def sliceD (S : Nat) (m : List Ent) (d : D) (lo hi : Nat) : Option D :=
  match d with
  | .v (.slice none 0 0) => if lo = 0 ∧ hi = 0 then some d else none
  | .sl S' l => if S' = S ∧ lo ≤ hi ∧ hi ≤ l.length then some (.sl S ((l.drop lo).take (hi - lo))) else none
  | .own id ver =>
    match m[id]? with
    | some (.live S' ver' l) => if S' = S ∧ ver' = ver ∧ lo ≤ hi ∧ hi ≤ l.length then some (.view id ver lo (hi - lo)) else none
    | _ => none
  | .view id ver l0 n =>
    match m[id]? with
    | some (.live S' ver' l) => if S' = S ∧ ver' = ver ∧ lo ≤ hi ∧ hi ≤ n ∧ l0 + n ≤ l.length then some (.view id ver (l0 + lo) (hi - lo)) else none
    | _ => none
  | _ => none

mutual
/-- No resource is named in the tree. -/
def idfree : D → Bool
  | .v _ => true
  | .agg l => idfrees l
  | .tup l => idfrees l
  | .sl _ l => idfrees l
  | .pt d => idfree d
  | .ref .. => false
  | .own .. => false
  | .view .. => false
  | .fn _ a b => idfrees a && idfrees b
  | .mp _ => false
  | .dead => true
def idfrees : List D → Bool
  | [] => true
  | d :: l => idfree d && idfrees l
end

/-- The tree of a plain value. -/
def isV : D → Bool
  | .v _ => true
  | _ => false

/-- The values of trees that are values. -/
def leaves : List D → Option (List Value)
  | [] => some []
  | .v x :: l => (leaves l).map (x :: ·)
  | _ :: _ => none

/-- Two cells of one simple kind (0: integer, 1: bool, 2: string): are they equal. -/
def eqLeaf : Nat → D → D → Option Bool
  | 0, .v (.int j a), .v (.int k b) => if j = k then some (a == b) else none
  | 1, .v (.bool a), .v (.bool b) => some (a == b)
  | 2, .v (.string a), .v (.string b) => some (a.toList == b.toList)
  | _, _, _ => none

/-- Two structs of simple cells: are they equal. -/
def eqLeaves : List Nat → List D → List D → Option Bool
  | [], [], [] => some true
  | k :: ks, x :: xs, y :: ys =>
    match eqLeaf k x y, eqLeaves ks xs ys with
    | some a, some b => some (a && b)
    | _, _ => none
  | _, _, _ => none

/-- Is the value a key of the kind (0: int, 2: string). -/
def isKey : Nat → Value → Bool
  | 0, .int .i64 _ => true
  | 2, .string _ => true
  | _, _ => false

def keyEq : Value → Value → Bool
  | .int _ a, .int _ b => a == b
  | .string a, .string b => a == b
  | _, _ => false

def lookD (k : Value) : List (Value × D) → Option D
  | [] => none
  | (q, d) :: l => if keyEq k q = true then some d else lookD k l

def putD (k : Value) (x : D) : List (Value × D) → List (Value × D)
  | [] => [(k, x)]
  | (q, d) :: l => if keyEq k q = true then (k, x) :: l else (q, d) :: putD k x l

/-- What an instruction comes to: its result, and the resources behind it. -/
def evalI (s : St) : I → Option (D × List Ent)
  | .mv x => some (s.ev x, s.m)
  | .pick c a b =>
    match s.ev c with
    | .v (.bool t) => some (bif t then s.ev a else s.ev b, s.m)
    | _ => none
  | .bin op x y =>
    match s.ev x, s.ev y with
    | .v (.int j a), .v (.int k b) => (pureRun (binOp op 0 (.int j a) (.int k b))).map fun r => (.v r, s.m)
    | .v (.string a), .v (.string b) => (pureRun (binOp op 0 (.string a) (.string b))).map fun r => (.v r, s.m)
    | _, _ => none
  | .beq neg x y =>
    match s.ev x, s.ev y with
    | .v (.bool a), .v (.bool b) => some (.v (.bool ((a == b) != neg)), s.m)
    | _, _ => none
  | .un op x =>
    match s.ev x with
    | .v a => (pureRun (Op.unary op a)).map fun r => (.v r, s.m)
    | _ => none
  | .conv k x =>
    match s.ev x with
    | .v (.int _ n) => some (.v (.int k (k.wrap n)), s.m)
    | _ => none
  | .alloc S z => some (.ref s.m.length 0 0 0, s.m ++ [.live S 0 [z]])
  | .box S x => if (s.ev x).ok = true ∧ (s.ev x).cells.length = S then some (.ref s.m.length 0 0 0, s.m ++ [.live S 0 [s.ev x]]) else none
  | .build z ps => (buildD s ps z).map fun l => (.agg l, s.m)
  | .bslice S n z ps => (bsliceD s S ps (List.replicate n z)).map fun l => (.own s.m.length 0, s.m ++ [.live S 0 l])
  | .load A n x =>
    match s.ev x with
    | .pt d =>
      match A, d with
      | true, .agg l => if l.length = n then some (d, s.m) else none
      | true, _ => none
      | false, .agg _ => none
      | false, d => if d.ok = true then some (d, s.m) else none
    | .ref id ver idx sub =>
      match s.m[id]? with
      | some (.live _ ver' l) => if ver' = ver then (l[idx]?).bind fun d => if d.ok = true then (part A n sub d.cells).map fun r => (r, s.m) else none else none
      | _ => none
    | _ => none
  | .store n x y =>
    match s.ev x with
    | .ref id ver idx sub =>
      match s.m[id]? with
      | some (.live S ver' l) =>
        if ver' = ver ∧ (s.ev y).ok = true ∧ (s.ev y).cells.length = n then
          (l[idx]?).bind fun d => if d.ok = true ∧ 0 < n ∧ sub + n ≤ d.cells.length then some (.dead, s.m.set id (.live S ver' (l.set idx (d.upd sub (s.ev y).cells)))) else none
        else none
      | _ => none
    | _ => none
  | .nilc x =>
    match s.ev x with
    | .ref .. => some (s.ev x, s.m)
    | .pt _ => some (s.ev x, s.m)
    | _ => none
  | .slice S x lo hi mx =>
    match lenOfD s.m (s.ev x) with
    | some n =>
      match bound s 0 lo, bound s n hi, bound s n mx with
      | some l, some h, some k => if h ≤ k ∧ k ≤ n then (sliceD S s.m (s.ev x) l h).map fun r => (r, s.m) else none
      | _, _, _ => none
    | none => none
  | .faddr A n off x =>
    match s.ev x with
    | .pt (.agg l) => (part A n off l).map fun r => (.pt r, s.m)
    | .ref id ver idx sub => some (.ref id ver idx (sub + off), s.m)
    | _ => none
  | .field A n off x =>
    match s.ev x with
    | .agg l => (part A n off l).map fun r => (r, s.m)
    | _ => none
  | .iaddr S x i =>
    match s.ev i with
    | .v (.int _ k) =>
      if 0 ≤ k then
        match s.ev x with
        | .sl S' l => if S' = S then (l[k.toNat]?).map fun d => (.pt d, s.m) else none
        | .own id ver =>
          match s.m[id]? with
          | some (.live S' ver' l) => if S' = S ∧ ver' = ver ∧ k.toNat < l.length then some (.ref id ver k.toNat 0, s.m) else none
          | _ => none
        | .view id ver lo n =>
          match s.m[id]? with
          | some (.live S' ver' l) => if S' = S ∧ ver' = ver ∧ k.toNat < n ∧ lo + n ≤ l.length then some (.ref id ver (lo + k.toNat) 0, s.m) else none
          | _ => none
        | _ => none
      else none
    | _ => none
  | .aaddr A S len x i =>
    match s.ev i with
    | .v (.int _ k) =>
      if 0 ≤ k ∧ k.toNat < len then
        match s.ev x with
        | .pt (.agg l) => (part A S (k.toNat * S) l).map fun r => (.pt r, s.m)
        | .ref id ver idx sub => some (.ref id ver idx (sub + k.toNat * S), s.m)
        | _ => none
      else none
    | _ => none
  | .index A S len x i =>
    match s.ev i with
    | .v (.int _ k) =>
      if 0 ≤ k ∧ k.toNat < len then
        match s.ev x with
        | .agg l => (part A S (k.toNat * S) l).map fun r => (r, s.m)
        | _ => none
      else none
    | _ => none
  | .extract x i =>
    match s.ev x with
    | .tup l => (l[i]?).map fun d => (d, s.m)
    | _ => none
  | .len x => (lenOfD s.m (s.ev x)).map fun (n : Nat) => (D.v (.int .i64 (n : Int)), s.m)
  | .slen x =>
    match s.ev x with
    | .v (.string b) => some (.v (.int .i64 (b.size : Int)), s.m)
    | _ => none
  | .append S bytes x y =>
    match contents S s.m (s.ev y) with
    | some r =>
      match s.ev x with
      | .v (.slice none 0 0) => if r.length * bytes ≤ 2 ^ 47 then some (.own s.m.length 0, s.m ++ [.live S 0 r]) else none
      | .own id ver =>
        match s.m[id]? with
        | some (.live S' ver' l) => if S' = S ∧ ver' = ver ∧ (l.length + r.length) * bytes ≤ 2 ^ 47 then some (.own id (ver + 1), s.m.set id (.live S (ver + 1) (l ++ r))) else none
        | _ => none
      | _ => none
    | none => none
  | .mkslice S bytes z l c =>
    match s.ev l, s.ev c with
    | .v (.int .i64 n), .v (.int .i64 k) =>
      if 0 ≤ n ∧ n ≤ k ∧ k ≤ 2 ^ 62 ∧ k.toNat * bytes ≤ 2 ^ 48 then some (.own s.m.length 0, s.m ++ [.live S 0 (List.replicate n.toNat z)]) else none
    | _, _ => none
  | .mkfunc f first caps => some (.fn f (first.map s.ev) (caps.map s.ev), s.m)
  | .fail => none
  | .mm isMax xs =>
    match leaves (xs.map s.ev) with
    | some vs => (pureRun (if isMax then Builtin.max_ #[] 0 vs.toArray else Builtin.min_ #[] 0 vs.toArray)).map fun r => (.v r, s.m)
    | none => none
  | .ceq neg ks x y =>
    match s.ev x, s.ev y with
    | .agg l, .agg r => (eqLeaves ks l r).map fun t => (.v (.bool (t != neg)), s.m)
    | _, _ => none
  | .strb S x =>
    match s.ev x with
    | .own id ver =>
      match s.m[id]? with
      | some (.live S' ver' l) => if S' = S ∧ ver' = ver ∧ 0 < l.length ∧ l.all isV = true then some (.sl S l, s.m.set id .gone) else none
      | _ => none
    | _ => none
  | .sidx x i =>
    match s.ev x, s.ev i with
    | .v (.string b), .v (.int _ k) => if h : 0 ≤ k ∧ k.toNat < b.size then some (.v (.int .u8 (b[k.toNat]'h.2).toNat), s.m) else none
    | _, _ => none
  | .sslice x lo hi =>
    match s.ev x with
    | .v (.string b) =>
      match bound s 0 lo, bound s b.size hi with
      | some l, some h => if l ≤ h ∧ h ≤ b.size then some (.v (.string (b.extract l h)), s.m) else none
      | _, _ => none
    | _ => none
  | .mkmap => some (.mp s.m.length, s.m ++ [.mp []])
  | .mlook K ok z x k =>
    match s.ev k with
    | .v kv =>
      if isKey K kv = true then
        match s.ev x with
        | .v (.map none) => some (if ok then .tup [z, .v (.bool false)] else z, s.m)
        | .mp id =>
          match s.m[id]? with
          | some (.mp es) =>
            if (es.all fun e => isKey K e.1) = true then
              match lookD kv es with
              | some d => some (if ok then .tup [d, .v (.bool true)] else d, s.m)
              | none => some (if ok then .tup [z, .v (.bool false)] else z, s.m)
            else none
          | _ => none
        | _ => none
      else none
    | _ => none
  | .mput K m k x =>
    match s.ev k, s.ev m with
    | .v kv, .mp id =>
      match s.m[id]? with
      | some (.mp es) => if isKey K kv = true ∧ (es.all fun e => isKey K e.1) = true then some (.dead, s.m.set id (.mp (putD kv (s.ev x) es))) else none
      | _ => none
    | _, _ => none
  | .mlen x =>
    match s.ev x with
    | .v (.map none) => some (.v (.int .i64 0), s.m)
    | .mp id =>
      match s.m[id]? with
      | some (.mp es) => some (.v (.int .i64 (es.length : Int)), s.m)
      | _ => none
    | _ => none
end Go.Tm
