/-
  The evaluator once more, in the form that the kernel works out fastest.
-/
import Derived.Test.YtlfhdejlpnljbaaTmY
set_option linter.unusedSimpArgs false
set_option linter.unusedVariables false
namespace Go.Tm
noncomputable section
def nthD (l : List D) : Nat → D := List.rec (motive := fun _ => Nat → D) (fun _ => .dead) (fun d _ ih i => Nat.rec d (fun i _ => ih i) i) l

theorem nthD_eq : ∀ (l : List D) (i : Nat), nthD l i = l.getD i .dead
  | [], i => rfl
  | d :: l, 0 => rfl
  | d :: l, i + 1 => nthD_eq l i

def setF {α β : Type} (l : List β) (x : β) : Nat → (List β → α) → α :=
  List.rec (motive := fun _ => Nat → (List β → α) → α) (fun _ f => f []) (fun d l ih i f => Nat.rec (f (x :: l)) (fun i _ => ih i fun l => f (d :: l)) i) l

theorem setF_eq {α β : Type} (x : β) : ∀ (l : List β) (i : Nat) (f : List β → α), setF l x i f = f (l.set i x)
  | [], i, f => rfl
  | d :: l, 0, f => rfl
  | d :: l, i + 1, f => setF_eq x l i (fun l => f (d :: l))

def evF (t : List D) (x : Operand) : D :=
  match x with
  | .tmp i => nthD t i
  | x => St.ev ⟨t, []⟩ x

theorem evF_eq (s : St) (x : Operand) : evF s.t x = s.ev x := by
  cases x <;> simp [evF, St.ev, nthD_eq]

/-- 2 to the number of bits. -/
def modF (k : IntKind) : Int :=
  match k with
  | .i8 => 256 | .i16 => 65536 | .i32 => 4294967296 | .i64 => 18446744073709551616
  | .u8 => 256 | .u16 => 65536 | .u32 => 4294967296 | .u64 => 18446744073709551616

theorem modF_eq (k : IntKind) : modF k = 2 ^ k.bits := by cases k <;> rfl

def wrapS (n h m : Int) : Int := bif decide (n % m ≥ h) then n % m - m else n % m

def wrapF (k : IntKind) (n : Int) : Int :=
  match k with
  | .i8 => wrapS n 128 256
  | .i16 => wrapS n 32768 65536
  | .i32 => wrapS n 2147483648 4294967296
  | .i64 => wrapS n 9223372036854775808 18446744073709551616
  | .u8 => n % 256
  | .u16 => n % 65536
  | .u32 => n % 4294967296
  | .u64 => n % 18446744073709551616

theorem wrapF_eq (k : IntKind) (n : Int) : wrapF k n = k.wrap n := by
  cases k <;> simp [wrapF, wrapS, IntKind.wrap, IntKind.bits, IntKind.signed, cond_eq_ite]

def bitJ (op : Nat → Nat → Nat) (k : IntKind) (x y : Int) : Value := .int k (wrapF k (op (x % modF k).toNat (y % modF k).toNat : Nat))

theorem ofInt_nat (k : IntKind) (x : Int) : (BitVec.ofInt k.bits x).toNat = (x % modF k).toNat := by
  rw [BitVec.toNat_ofInt, modF_eq]; norm_cast

def binJ (op : BinOp) (j : IntKind) (a : Int) (k : IntKind) (b : Int) : Option Value :=
  match op with
  | .add => bif decide (j = k) then some (.int j (wrapF j (a + b))) else none
  | .sub => bif decide (j = k) then some (.int j (wrapF j (a - b))) else none
  | .mul => bif decide (j = k) then some (.int j (wrapF j (a * b))) else none
  | .eql => bif decide (j = k) then some (.bool (a == b)) else none
  | .neq => bif decide (j = k) then some (.bool (a != b)) else none
  | .lss => bif decide (j = k) then some (.bool (decide (a < b))) else none
  | .leq => bif decide (j = k) then some (.bool (decide (a ≤ b))) else none
  | .gtr => bif decide (j = k) then some (.bool (decide (b < a))) else none
  | .geq => bif decide (j = k) then some (.bool (decide (b ≤ a))) else none
  | .and => bif decide (j = k) then some (bitJ Nat.land j a b) else none
  | .or => bif decide (j = k) then some (bitJ Nat.lor j a b) else none
  | .xor => bif decide (j = k) then some (bitJ Nat.xor j a b) else none
  | .quo => bif decide (j = k) && !decide (b = 0) then some (.int j (wrapF j (a.tdiv b))) else none
  | .rem => bif decide (j = k) && !decide (b = 0) then some (.int j (a.tmod b)) else none
  | .shl => bif decide (b < 0) then none else some (.int j (wrapF j (a * ((2 ^ (min b.toNat j.bits) : Nat) : Int))))
  | .shr => bif decide (b < 0) then none else some (.int j (a.fdiv ((2 ^ (min b.toNat j.bits) : Nat) : Int)))
  | op => pureRun (binOp op 0 (.int j a) (.int k b))

theorem binJ_eq (op : BinOp) (j : IntKind) (a : Int) (k : IntKind) (b : Int) : binJ op j a k b = pureRun (binOp op 0 (.int j a) (.int k b)) := by
  have hst : ∀ {α : Type} (x : String), pureRun (stuck x : Sem α) = none := fun _ => rfl
  have hp : ∀ {α : Type} (x : α), pureRun (pure x : Sem α) = some x := fun _ => rfl
  have hrt : ∀ {α : Type} x, pureRun (runtimePanic x : Sem α) = none := fun _ => rfl
  cases op
  case shl =>
    simp only [binJ, binOp, Op.shift, cond_eq_ite, decide_eq_true_eq]
    split <;> simp [hst, hp, hrt, wrapF_eq]
  case shr =>
    simp only [binJ, binOp, Op.shift, cond_eq_ite, decide_eq_true_eq]
    split <;> simp [hst, hp, hrt]
  all_goals
    by_cases hjk : j = k
    · subst hjk
      simp [binJ, binOp, Op.intArith, Op.intCmp, Op.intBits, Op.intDiv, hst, hp, hrt, wrapF_eq, bitJ, ofInt_nat, modF_eq]
      try rfl
      try (split <;> simp [hst, hp, hrt, wrapF_eq, *])
    · simp [binJ, binOp, hjk, hst]

def unJ (op : UnOp) (a : Value) : Option Value :=
  match op, a with
  | .not, .bool b => some (.bool !b)
  | op, a => pureRun (Op.unary op a)

theorem unJ_eq (op : UnOp) (a : Value) : unJ op a = pureRun (Op.unary op a) := by
  unfold unJ
  split
  · rfl
  · rfl

def ev_mv (s : St) (x : Operand) : Option (D × List Ent) := some (evF s.t x, s.m)

def ev_pick (s : St) (c : Operand) (a : Operand) (b : Operand) : Option (D × List Ent) :=
    match evF s.t c with
    | .v (.bool t) => some (bif t then evF s.t a else evF s.t b, s.m)
    | _ => none

def ev_bin (s : St) (op : BinOp) (x : Operand) (y : Operand) : Option (D × List Ent) :=
    match evF s.t x, evF s.t y with
    | .v (.int j a), .v (.int k b) => (binJ op j a k b).map fun r => (.v r, s.m)
    | .v (.string a), .v (.string b) => (pureRun (binOp op 0 (.string a) (.string b))).map fun r => (.v r, s.m)
    | _, _ => none

def ev_beq (s : St) (neg : Bool) (x : Operand) (y : Operand) : Option (D × List Ent) :=
    match evF s.t x, evF s.t y with
    | .v (.bool a), .v (.bool b) => some (.v (.bool ((a == b) != neg)), s.m)
    | _, _ => none

def ev_un (s : St) (op : UnOp) (x : Operand) : Option (D × List Ent) :=
    match evF s.t x with
    | .v a => (unJ op a).map fun r => (.v r, s.m)
    | _ => none

def ev_conv (s : St) (k : IntKind) (x : Operand) : Option (D × List Ent) :=
    match evF s.t x with
    | .v (.int _ n) => some (.v (.int k (wrapF k n)), s.m)
    | _ => none

def ev_alloc (s : St) (S : Nat) (z : D) : Option (D × List Ent) := some (.ref s.m.length 0 0 0, s.m ++ [.live S 0 [z]])

def ev_box (s : St) (S : Nat) (x : Operand) : Option (D × List Ent) := if (evF s.t x).ok = true ∧ (evF s.t x).cells.length = S then some (.ref s.m.length 0 0 0, s.m ++ [.live S 0 [evF s.t x]]) else none

def ev_build (s : St) (z : List D) (ps : List (Nat × Nat × Operand)) : Option (D × List Ent) := (buildD s ps z).map fun l => (.agg l, s.m)

def ev_bslice (s : St) (S : Nat) (n : Nat) (z : D) (ps : List (Nat × Operand)) : Option (D × List Ent) := (bsliceD s S ps (List.replicate n z)).map fun l => (.own s.m.length 0, s.m ++ [.live S 0 l])

def ev_load (s : St) (A : Bool) (n : Nat) (x : Operand) : Option (D × List Ent) :=
    match evF s.t x with
    | .pt d =>
      match A, d with
      | true, .agg l => if l.length = n then some (d, s.m) else none
      | true, _ => none
      | false, .agg _ => none
      | false, d => if d.ok = true then some (d, s.m) else none
    | .ref id ver idx sub =>
      match s.m[id]? with
      | some (.live _ ver' l) => if ver' = ver then (l[idx]?).bind fun d => if d.ok = true then (part A n sub d.cells).map fun r => (r, s.m) else none else none
      | _ => none
    | _ => none

def ev_store (s : St) (n : Nat) (x : Operand) (y : Operand) : Option (D × List Ent) :=
    match evF s.t x with
    | .ref id ver idx sub =>
      match s.m[id]? with
      | some (.live S ver' l) =>
        if ver' = ver ∧ (evF s.t y).ok = true ∧ (evF s.t y).cells.length = n then
          (l[idx]?).bind fun d => if d.ok = true ∧ 0 < n ∧ sub + n ≤ d.cells.length then some (.dead, s.m.set id (.live S ver' (l.set idx (d.upd sub (evF s.t y).cells)))) else none
        else none
      | _ => none
    | _ => none

def ev_nilc (s : St) (x : Operand) : Option (D × List Ent) :=
    match evF s.t x with
    | .ref .. => some (evF s.t x, s.m)
    | .pt _ => some (evF s.t x, s.m)
    | _ => none

def ev_slice (s : St) (S : Nat) (x : Operand) (lo : Option Operand) (hi : Option Operand) (mx : Option Operand) : Option (D × List Ent) :=
    match lenOfD s.m (evF s.t x) with
    | some n =>
      match bound s 0 lo, bound s n hi, bound s n mx with
      | some l, some h, some k => if h ≤ k ∧ k ≤ n then (sliceD S s.m (evF s.t x) l h).map fun r => (r, s.m) else none
      | _, _, _ => none
    | none => none

def ev_faddr (s : St) (A : Bool) (n : Nat) (off : Nat) (x : Operand) : Option (D × List Ent) :=
    match evF s.t x with
    | .pt (.agg l) => (part A n off l).map fun r => (.pt r, s.m)
    | .ref id ver idx sub => some (.ref id ver idx (sub + off), s.m)
    | _ => none

def ev_field (s : St) (A : Bool) (n : Nat) (off : Nat) (x : Operand) : Option (D × List Ent) :=
    match evF s.t x with
    | .agg l => (part A n off l).map fun r => (r, s.m)
    | _ => none

def ev_iaddr (s : St) (S : Nat) (x : Operand) (i : Operand) : Option (D × List Ent) :=
    match evF s.t i with
    | .v (.int _ k) =>
      if 0 ≤ k then
        match evF s.t x with
        | .sl S' l => if S' = S then (l[k.toNat]?).map fun d => (.pt d, s.m) else none
        | .own id ver =>
          match s.m[id]? with
          | some (.live S' ver' l) => if S' = S ∧ ver' = ver ∧ k.toNat < l.length then some (.ref id ver k.toNat 0, s.m) else none
          | _ => none
        | .view id ver lo n =>
          match s.m[id]? with
          | some (.live S' ver' l) => if S' = S ∧ ver' = ver ∧ k.toNat < n ∧ lo + n ≤ l.length then some (.ref id ver (lo + k.toNat) 0, s.m) else none
          | _ => none
        | _ => none
      else none
    | _ => none

def ev_aaddr (s : St) (A : Bool) (S : Nat) (len : Nat) (x : Operand) (i : Operand) : Option (D × List Ent) :=
    match evF s.t i with
    | .v (.int _ k) =>
      if 0 ≤ k ∧ k.toNat < len then
        match evF s.t x with
        | .pt (.agg l) => (part A S (k.toNat * S) l).map fun r => (.pt r, s.m)
        | .ref id ver idx sub => some (.ref id ver idx (sub + k.toNat * S), s.m)
        | _ => none
      else none
    | _ => none

def ev_index (s : St) (A : Bool) (S : Nat) (len : Nat) (x : Operand) (i : Operand) : Option (D × List Ent) :=
    match evF s.t i with
    | .v (.int _ k) =>
      if 0 ≤ k ∧ k.toNat < len then
        match evF s.t x with
        | .agg l => (part A S (k.toNat * S) l).map fun r => (r, s.m)
        | _ => none
      else none
    | _ => none

def ev_extract (s : St) (x : Operand) (i : Nat) : Option (D × List Ent) :=
    match evF s.t x with
    | .tup l => (l[i]?).map fun d => (d, s.m)
    | _ => none

def ev_len (s : St) (x : Operand) : Option (D × List Ent) := (lenOfD s.m (evF s.t x)).map fun (n : Nat) => (D.v (.int .i64 (n : Int)), s.m)

def ev_slen (s : St) (x : Operand) : Option (D × List Ent) :=
    match evF s.t x with
    | .v (.string b) => some (.v (.int .i64 (b.size : Int)), s.m)
    | _ => none

def ev_append (s : St) (S : Nat) (bytes : Nat) (x : Operand) (y : Operand) : Option (D × List Ent) :=
    match contents S s.m (evF s.t y) with
    | some r =>
      match evF s.t x with
      | .v (.slice none 0 0) => if r.length * bytes ≤ 2 ^ 47 then some (.own s.m.length 0, s.m ++ [.live S 0 r]) else none
      | .own id ver =>
        match s.m[id]? with
        | some (.live S' ver' l) => if S' = S ∧ ver' = ver ∧ (l.length + r.length) * bytes ≤ 2 ^ 47 then some (.own id (ver + 1), s.m.set id (.live S (ver + 1) (l ++ r))) else none
        | _ => none
      | _ => none
    | none => none

def ev_mkslice (s : St) (S : Nat) (bytes : Nat) (z : D) (l : Operand) (c : Operand) : Option (D × List Ent) :=
    match evF s.t l, evF s.t c with
    | .v (.int .i64 n), .v (.int .i64 k) =>
      if 0 ≤ n ∧ n ≤ k ∧ k ≤ 2 ^ 62 ∧ k.toNat * bytes ≤ 2 ^ 48 then some (.own s.m.length 0, s.m ++ [.live S 0 (List.replicate n.toNat z)]) else none
    | _, _ => none

def ev_mkfunc (s : St) (f : FuncId) (first : List Operand) (caps : List Operand) : Option (D × List Ent) := some (.fn f (first.map (evF s.t)) (caps.map (evF s.t)), s.m)

def ev_fail (s : St) : Option (D × List Ent) := none

def ev_mm (s : St) (isMax : Bool) (xs : List Operand) : Option (D × List Ent) :=
    match leaves (xs.map (evF s.t)) with
    | some vs => (pureRun (if isMax then Builtin.max_ #[] 0 vs.toArray else Builtin.min_ #[] 0 vs.toArray)).map fun r => (.v r, s.m)
    | none => none

def ev_ceq (s : St) (neg : Bool) (ks : List Nat) (x : Operand) (y : Operand) : Option (D × List Ent) :=
    match evF s.t x, evF s.t y with
    | .agg l, .agg r => (eqLeaves ks l r).map fun t => (.v (.bool (t != neg)), s.m)
    | _, _ => none

def ev_strb (s : St) (S : Nat) (x : Operand) : Option (D × List Ent) :=
    match evF s.t x with
    | .own id ver =>
      match s.m[id]? with
      | some (.live S' ver' l) => if S' = S ∧ ver' = ver ∧ 0 < l.length ∧ l.all isV = true then some (.sl S l, s.m.set id .gone) else none
      | _ => none
    | _ => none

def ev_sidx (s : St) (x : Operand) (i : Operand) : Option (D × List Ent) :=
    match evF s.t x, evF s.t i with
    | .v (.string b), .v (.int _ k) => if h : 0 ≤ k ∧ k.toNat < b.size then some (.v (.int .u8 (b[k.toNat]'h.2).toNat), s.m) else none
    | _, _ => none

def ev_sslice (s : St) (x : Operand) (lo : Option Operand) (hi : Option Operand) : Option (D × List Ent) :=
    match evF s.t x with
    | .v (.string b) =>
      match bound s 0 lo, bound s b.size hi with
      | some l, some h => if l ≤ h ∧ h ≤ b.size then some (.v (.string (b.extract l h)), s.m) else none
      | _, _ => none
    | _ => none

def ev_mkmap (s : St) : Option (D × List Ent) := some (.mp s.m.length, s.m ++ [.mp []])

def ev_mlook (s : St) (K : Nat) (ok : Bool) (z : D) (x : Operand) (k : Operand) : Option (D × List Ent) :=
    match evF s.t k with
    | .v kv =>
      if isKey K kv = true then
        match evF s.t x with
        | .v (.map none) => some (if ok then .tup [z, .v (.bool false)] else z, s.m)
        | .mp id =>
          match s.m[id]? with
          | some (.mp es) =>
            if (es.all fun e => isKey K e.1) = true then
              match lookD kv es with
              | some d => some (if ok then .tup [d, .v (.bool true)] else d, s.m)
              | none => some (if ok then .tup [z, .v (.bool false)] else z, s.m)
            else none
          | _ => none
        | _ => none
      else none
    | _ => none

def ev_mput (s : St) (K : Nat) (m : Operand) (k : Operand) (x : Operand) : Option (D × List Ent) :=
    match evF s.t k, evF s.t m with
    | .v kv, .mp id =>
      match s.m[id]? with
      | some (.mp es) => if isKey K kv = true ∧ (es.all fun e => isKey K e.1) = true then some (.dead, s.m.set id (.mp (putD kv (evF s.t x) es))) else none
      | _ => none
    | _, _ => none

def ev_mlen (s : St) (x : Operand) : Option (D × List Ent) :=
    match evF s.t x with
    | .v (.map none) => some (.v (.int .i64 0), s.m)
    | .mp id =>
      match s.m[id]? with
      | some (.mp es) => some (.v (.int .i64 (es.length : Int)), s.m)
      | _ => none
    | _ => none

def evJ (s : St) (i : I) : Option (D × List Ent) :=
  match i with
  | .mv x => ev_mv s x
  | .pick c a b => ev_pick s c a b
  | .bin op x y => ev_bin s op x y
  | .beq neg x y => ev_beq s neg x y
  | .un op x => ev_un s op x
  | .conv k x => ev_conv s k x
  | .alloc S z => ev_alloc s S z
  | .box S x => ev_box s S x
  | .build z ps => ev_build s z ps
  | .bslice S n z ps => ev_bslice s S n z ps
  | .load A n x => ev_load s A n x
  | .store n x y => ev_store s n x y
  | .nilc x => ev_nilc s x
  | .slice S x lo hi mx => ev_slice s S x lo hi mx
  | .faddr A n off x => ev_faddr s A n off x
  | .field A n off x => ev_field s A n off x
  | .iaddr S x i => ev_iaddr s S x i
  | .aaddr A S len x i => ev_aaddr s A S len x i
  | .index A S len x i => ev_index s A S len x i
  | .extract x i => ev_extract s x i
  | .len x => ev_len s x
  | .slen x => ev_slen s x
  | .append S bytes x y => ev_append s S bytes x y
  | .mkslice S bytes z l c => ev_mkslice s S bytes z l c
  | .mkfunc f first caps => ev_mkfunc s f first caps
  | .fail => ev_fail s
  | .mm isMax xs => ev_mm s isMax xs
  | .ceq neg ks x y => ev_ceq s neg ks x y
  | .strb S x => ev_strb s S x
  | .sidx x i => ev_sidx s x i
  | .sslice x lo hi => ev_sslice s x lo hi
  | .mkmap => ev_mkmap s
  | .mlook K ok z x k => ev_mlook s K ok z x k
  | .mput K m k x => ev_mput s K m k x
  | .mlen x => ev_mlen s x

theorem evJ_eq (s : St) (i : I) : evJ s i = evalI s i := by
  have h : evF s.t = s.ev := by funext x; exact evF_eq s x
  cases i <;> simp only [evJ, evalI, ev_mv, ev_pick, ev_bin, ev_beq, ev_un, ev_conv, ev_alloc, ev_box, ev_build, ev_bslice, ev_load, ev_store, ev_nilc, ev_slice, ev_faddr, ev_field, ev_iaddr, ev_aaddr, ev_index, ev_extract, ev_len, ev_slen, ev_append, ev_mkslice, ev_mkfunc, ev_fail, ev_mm, ev_ceq, ev_strb, ev_sidx, ev_sslice, ev_mkmap, ev_mlook, ev_mput, ev_mlen, h, binJ_eq, wrapF_eq, unJ_eq] <;> rfl

abbrev Kt := Exit → St → Option (Exit × St)
abbrev Rt := W → St → Kt → Option (Exit × St)

def putK (t : List D) (dst : Option Tmp) (d : D) (m : List Ent) (f : St → Option (Exit × St)) : Option (Exit × St) :=
  match dst with
  | some i => setF t d i fun t => f1 m fun m => f ⟨t, m⟩
  | none => f1 t fun t => f1 m fun m => f ⟨t, m⟩

/-- A tree's head. -/
def f0 {α : Type} (d : D) (f : D → α) : α :=
  match d with
  | .v x => f (.v x)
  | .agg l => f (.agg l)
  | .tup l => f (.tup l)
  | .sl S l => f (.sl S l)
  | .pt d => f (.pt d)
  | .ref a b c d => f (.ref a b c d)
  | .own a b => f (.own a b)
  | .view a b c d => f (.view a b c d)
  | .fn g a b => f (.fn g a b)
  | .mp a => f (.mp a)
  | .dead => f .dead

theorem f0_eq {α : Type} (d : D) (f : D → α) : f0 d f = f d := by cases d <;> rfl

/-- A tree's head and the build of its lists. -/
def fS {α : Type} (d : D) (f : D → α) : α :=
  match d with
  | .v x => fV x fun x => f (.v x)
  | .agg l => fL l fun l => f (.agg l)
  | .tup l => fL l fun l => f (.tup l)
  | .sl S l => fNat S fun S => fL l fun l => f (.sl S l)
  | .pt d => fD d fun d => f (.pt d)
  | .ref a b c d => fNat a fun a => fNat b fun b => fNat c fun c => fNat d fun d => f (.ref a b c d)
  | .own a b => fNat a fun a => fNat b fun b => f (.own a b)
  | .view a b c d => fNat a fun a => fNat b fun b => fNat c fun c => fNat d fun d => f (.view a b c d)
  | .fn g a b => fNat g fun g => fDs a fun a => fDs b fun b => f (.fn g a b)
  | .mp a => fNat a fun a => f (.mp a)
  | .dead => f .dead

theorem fS_eq {α : Type} (d : D) (f : D → α) : fS d f = f d := by cases d <;> simp [fS, fV_eq, fL_eq, fNat_eq, fD_eq, fDs_eq]

/-- The list's build, and its last member. -/
def fLast {α : Type} (l : List Ent) (f : List Ent → α) : α :=
  match l with
  | [] => f []
  | e :: l =>
    match l with
    | [] => fE e fun e => f [e]
    | e' :: l => fLast (e' :: l) fun l => f (e :: l)

theorem fLast_eq {α : Type} : ∀ (l : List Ent) (f : List Ent → α), fLast l f = f l
  | [], f => rfl
  | [e], f => by simp [fLast, fE_eq]
  | e :: e' :: l, f => by simp [fLast, fLast_eq (e' :: l)]

/-- How an instruction's tree is worked out. -/
def fId (i : I) (d : D) (f : D → Option (Exit × St)) : Option (Exit × St) :=
  match i with
  | .mv _ => f0 d f
  | .pick .. => f0 d f
  | .nilc _ => f0 d f
  | .extract .. => f0 d f
  | .mlook .. => f0 d f
  | .load false _ _ => f0 d f
  | _ => fS d f

theorem fId_eq (i : I) (d : D) (f : D → Option (Exit × St)) : fId i d f = f d := by unfold fId; split <;> simp [f0_eq, fS_eq]

def storeK (s : St) (n : Nat) (x y : Operand) (dst : Option Tmp) (f : St → Option (Exit × St)) : Option (Exit × St) :=
  match evF s.t x with
  | .ref id ver idx sub =>
    match s.m[id]? with
    | some (.live S ver' l) =>
      if ver' = ver ∧ (evF s.t y).ok = true ∧ (evF s.t y).cells.length = n then
        match l[idx]? with
        | some d =>
          if d.ok = true ∧ 0 < n ∧ sub + n ≤ d.cells.length then
            fD (d.upd sub (evF s.t y).cells) fun d' => setF l d' idx fun l' => setF s.m (.live S ver' l') id fun m' => putK s.t dst .dead m' f
          else none
        | none => none
      else none
    | _ => none
  | _ => none

def appendK (s : St) (S bytes : Nat) (x y : Operand) (dst : Option Tmp) (f : St → Option (Exit × St)) : Option (Exit × St) :=
  match contents S s.m (evF s.t y) with
  | some r =>
    match evF s.t x with
    | .v (.slice none 0 0) => if r.length * bytes ≤ 2 ^ 47 then fNat s.m.length fun id => fL r fun r => fL (s.m ++ [.live S 0 r]) fun m' => putK s.t dst (.own id 0) m' f else none
    | .own id ver =>
      match s.m[id]? with
      | some (.live S' ver' l) =>
        if S' = S ∧ ver' = ver ∧ (l.length + r.length) * bytes ≤ 2 ^ 47 then
          fNat (ver + 1) fun v' => fL (l ++ r) fun l' => setF s.m (.live S v' l') id fun m' => putK s.t dst (.own id v') m' f
        else none
      | _ => none
    | _ => none
  | none => none

def onK (s : St) (i : I) (dst : Option Tmp) (f : St → Option (Exit × St)) : Option (Exit × St) :=
  match i with
  | .store n x y => storeK s n x y dst f
  | .append S b x y => appendK s S b x y dst f
  | i =>
    match evJ s i with
    | some r => fId i r.1 fun d => if i.cls ≤ 1 then putK s.t dst d r.2 f else if i.cls = 2 then fLast r.2 fun m' => putK s.t dst d m' f else fM r.2 fun m' => putK s.t dst d m' f
    | none => none

def gateF (s : St) (t : Tmp) (b : Bool) : Option Bool :=
  match nthD s.t t with
  | .v x => match x with
    | .bool c => some (c == b)
    | _ => some (!b == b)
  | _ => none

def opK (s : St) (dst : Option Tmp) (g : Option (Tmp × Bool)) (i : I) (f : St → Option (Exit × St)) : Option (Exit × St) :=
  match g with
  | none => onK s i dst f
  | some tb =>
    match gateF s tb.1 tb.2 with
    | none => none
    | some true => onK s i dst f
    | some false => putK s.t dst (.v undef) s.m f

def goC (rc : Rt) (c : C) (s : St) (k : Kt) : Option (Exit × St) :=
  match c with
  | .skip => k .normal s
  | .reg l => rc (.l l) s k
  | .draw q l => rc (.dl q l) s k
  | .any cuts q bs l => if sorted (cuts ++ [q]) = true then rc (.seg (cuts ++ [q]) 0 bs l) s k else none
  | .seq a b => rc (.c a) s fun e s' => match e with | .normal => rc (.c b) s' k | e => k e s'
  | .cond c a b =>
    match evF s.t c with
    | .v (.bool t) => match t with | true => rc (.c a) s k | false => rc (.c b) s k
    | _ => none
  | .block id a => rc (.c a) s fun e s' => match e with | .exit j => if j = id then k .normal s' else k (.exit j) s' | e => k e s'
  | .loop a => rc (.c a) s fun e s' => match e with | .normal => rc (.c (.loop a)) s' k | e => k e s'
  | .exit id => k (.exit id) s
  | .ret => k .ret s

def goL (rc : Rt) (l : List RI) (s : St) (k : Kt) : Option (Exit × St) :=
  match l with
  | [] => k .normal s
  | r :: l =>
    match r with
    | .op dst g i => opK s dst g i fun s' => rc (.l l) s' k
    | .call dst g f args =>
      match evF s.t f with
      | .fn c first caps =>
        match gateOn s g with
        | some true => fNat c fun c => fDs (first ++ args.map (evF s.t) ++ caps) fun ds => rc (.f c ds) s fun _ s1 => match s1.t with | [d] => putK s.t dst d s1.m fun s' => rc (.l l) s' k | _ => none
        | some false => putK s.t dst (.v undef) s.m fun s' => rc (.l l) s' k
        | none => none
      | _ => none

def goDL (rc : Rt) (q : Nat) (l : List RI) (s : St) (k : Kt) : Option (Exit × St) :=
  match q with
  | 0 => rc (.l l) s k
  | q + 1 =>
    match l with
    | [] => none
    | r :: l =>
      match r with
      | .op dst g i => opK s dst g i fun s' => rc (.dl q l) s' k
      | .call dst g f args =>
        match evF s.t f with
        | .fn c first caps =>
          match gateOn s g with
          | some true => fNat c fun c => fDs (first ++ args.map (evF s.t) ++ caps) fun ds => rc (.p c ds) s fun _ s1 => match s1.t with | [d] => putK s.t dst d s.m fun s' => rc (.dl q l) s' k | _ => none
          | some false => putK s.t dst (.v undef) s.m fun s' => rc (.dl q l) s' k
          | none => none
        | _ => none

def goA (rc : Rt) (bs : List (List Nat)) (rl : List RI) (q k : Nat) (L : List Bool) (s : St) (kk : Kt) : Option (Exit × St) :=
  match k with
  | 0 => none
  | k + 1 =>
    fL (readyL bs q L) fun rs =>
    match rs with
    | [] => kk .normal s
    | i :: is =>
      rc (.l (rl[i]?).toList) s fun _ s1 => rc (.any bs rl q k (L.set i true)) s1 fun _ sf =>
        if (is.all fun j => match (rc (.l (rl[j]?).toList) s fun _ s1 => rc (.any bs rl q k (L.set j true)) s1 fun e s' => some (e, s')) with | some (_, s') => eqSt s' sf | none => false) = true then kk .normal sf else none

def goS (rc : Rt) (ps : List Nat) (lo : Nat) (bs : List (List Nat)) (l : List RI) (s : St) (k : Kt) : Option (Exit × St) :=
  match ps with
  | [] => rc (.l (l.drop lo)) s k
  | p :: ps => rc (.any bs l p (p + 1) (List.replicate lo true ++ List.replicate (p - lo) false)) s fun _ s' => rc (.seg ps p bs l) s' k

/-- At a function's end. -/
def endK (F : Fun) (s : St) (f : D → List Ent → Option (Exit × St)) : Option (Exit × St) :=
  match ressD s F.results with
  | some es => fD (tupD es) fun d => f1 s.m fun m => f d m
  | none => none

def endKe (F : Fun) (f : D → List Ent → Option (Exit × St)) : Kt := fun e s =>
  match e with
  | .normal => endK F s f
  | .ret => endK F s f
  | _ => none

def goF (FT : Nat → Option (Fun × Nat)) (rc : Rt) (k : Nat) (ds : List D) (s : St) (kk : Kt) : Option (Exit × St) :=
  match FT k with
  | some (F, md) =>
    match md with
    | 0 => fL (ds ++ List.replicate (F.ntmps - ds.length) .dead) fun t => f1 s.m fun m => rc (.c F.code) ⟨t, m⟩ (endKe F fun d m => kk .normal ⟨[d], m⟩)
    | md + 1 =>
      match md with
      | 0 => rc (.p k ds) s fun _ s1 => match s1.t with | [d] => kk .normal ⟨[d], s.m⟩ | _ => none
      | _ + 1 => fDs (ds.map (froz 8 s.m) ++ List.replicate (F.ntmps - ds.length) .dead) fun t => rc (.c F.code) ⟨t, []⟩ (endKe F fun d _ => if flat d = true then kk .normal ⟨[d], s.m⟩ else none)
  | none => none

def goP (FT : Nat → Option (Fun × Nat)) (rc : Rt) (k : Nat) (ds : List D) (kk : Kt) : Option (Exit × St) :=
  match FT k with
  | some (F, _) =>
    if idfrees ds = true then fL (ds ++ List.replicate (F.ntmps - ds.length) .dead) fun t => rc (.c F.code) ⟨t, []⟩ (endKe F fun d m' => fD (froz 8 m' d) fun d => kk .normal ⟨[d], []⟩)
    else none
  | none => none

def go (FT : Nat → Option (Fun × Nat)) (rc : Rt) (w : W) (s : St) (k : Kt) : Option (Exit × St) :=
  match w with
  | .c c => goC rc c s k
  | .l l => goL rc l s k
  | .dl q l => goDL rc q l s k
  | .any bs rl q c L => goA rc bs rl q c L s k
  | .seg ps lo bs l => goS rc ps lo bs l s k
  | .f c ds => goF FT rc c ds s k
  | .p c ds => goP FT rc c ds k

def runK (FT : Nat → Option (Fun × Nat)) (n : Nat) : Rt := Nat.rec (motive := fun _ => Rt) (fun _ _ _ => none) (fun _ rc w s k => go FT rc w s k) n

section
variable {FT : Nat → Option (Fun × Nat)}

theorem putK_eq (t : List D) (dst : Option Tmp) (d : D) (m : List Ent) (f : St → Option (Exit × St)) : putK t dst d m f = f ((⟨t, m⟩ : St).put dst d) := by
  cases dst <;> simp [putK, St.put, setF_eq, f1_eq]

theorem storeK_eq (s : St) (n : Nat) (x y : Operand) (dst : Option Tmp) (f : St → Option (Exit × St)) : storeK s n x y dst f = (match evalI s (.store n x y) with | some (d, m') => f ({ s with m := m' }.put dst d) | none => none) := by
  simp only [storeK, evalI, evF_eq, fD_eq, setF_eq, putK_eq]
  cases s.ev x with
  | ref id ver idx sub =>
    simp only
    cases s.m[id]? with
    | none => rfl
    | some e =>
      cases e with
      | live S ver' l =>
        simp only
        split
        · cases l[idx]? with
          | none => rfl
          | some d =>
            simp only [Option.bind_some]
            split <;> rfl
        · rfl
      | _ => rfl
  | _ => rfl

theorem appendK_eq (s : St) (S bytes : Nat) (x y : Operand) (dst : Option Tmp) (f : St → Option (Exit × St)) : appendK s S bytes x y dst f = (match evalI s (.append S bytes x y) with | some (d, m') => f ({ s with m := m' }.put dst d) | none => none) := by
  simp only [appendK, evalI, evF_eq, fNat_eq, fL_eq, setF_eq, putK_eq]
  cases contents S s.m (s.ev y) with
  | none => rfl
  | some r =>
    simp only
    generalize s.ev x = dx
    split
    · simp only
      split <;> rfl
    · rename_i id ver
      simp only
      cases s.m[id]? with
      | none => rfl
      | some e =>
        cases e with
        | live S' ver' l =>
          simp only
          split <;> rfl
        | _ => rfl
    · rename_i h1 h2
      split
      · rename_i h
        split at h
        · exact (h1 rfl).elim
        · exact (h2 _ _ rfl).elim
        · cases h
      · rfl

theorem onK_eq (s : St) (i : I) (dst : Option Tmp) (f : St → Option (Exit × St)) : onK s i dst f = (match evalI s i with | some (d, m') => f ({ s with m := m' }.put dst d) | none => none) := by
  unfold onK
  split
  · exact storeK_eq ..
  · exact appendK_eq ..
  · rw [evJ_eq]
    cases evalI s i with
    | none => rfl
    | some r =>
      simp only [fId_eq, fLast_eq, fM_eq, putK_eq]
      split
      · rfl
      · split <;> rfl

theorem gateF_eq (s : St) (t : Tmp) (b : Bool) : gateF s t b = gateOn s (some (t, b)) := by
  unfold gateF gateOn gate
  rw [nthD_eq]
  simp only
  cases s.t.getD t .dead with
  | v x => cases x <;> first | rfl | (cases b <;> rfl)
  | _ => rfl

theorem opK_eq (s : St) (dst : Option Tmp) (g : Option (Tmp × Bool)) (i : I) (f : St → Option (Exit × St)) : opK s dst g i f = (match stepOp s dst g i with | some s' => f s' | none => none) := by
  unfold opK
  cases g with
  | none =>
    simp only [onK_eq, stepOp, gate]
    cases evalI s i with
    | none => rfl
    | some r => rfl
  | some tb =>
    obtain ⟨t, b⟩ := tb
    simp only [gateF_eq, onK_eq, putK_eq, stepOp, gateOn]
    cases gate s (some (t, b)) with
    | none => rfl
    | some o =>
      cases o with
      | none =>
        cases evalI s i with
        | none => rfl
        | some r => rfl
      | some cb =>
        obtain ⟨c, b'⟩ := cb
        by_cases h : c = b'
        · subst h
          simp only [beq_self_eq_true, if_true]
          cases evalI s i with
          | none => rfl
          | some r => rfl
        · have : (c == b') = false := by simpa using h
          simp only [this, h, if_false]

theorem endK_eq {F : Fun} {f : D → List Ent → Option (Exit × St)} (e : Exit) (s : St) : endKe F f e s = (match ended F (some (e, s)) with | some (d, m) => f d m | none => none) := by
  unfold endKe ended endK
  cases e <;> simp only
  · cases ressD s F.results with
    | none => rfl
    | some es => simp [fD_eq, f1_eq]
  · cases ressD s F.results with
    | none => rfl
    | some es => simp [fD_eq, f1_eq]

/-- **The fast evaluator does as the other.** -/
theorem runK_eq : ∀ (n : Nat) (w : W) (s : St) (k : Kt), runK FT n w s k = (match run FT n w s with | some (e, s') => k e s' | none => none) := by
  intro n
  have hev : ∀ (s : St) x, evF s.t x = s.ev x := evF_eq
  have hmap : ∀ (s : St) (l : List Operand), l.map (evF s.t) = l.map s.ev := fun s l => by
    have : evF s.t = s.ev := by funext x; exact evF_eq s x
    rw [this]
  induction n with
  | zero => intro w s k; rfl
  | succ n ih =>
    intro w s k
    have hun : runK FT (n + 1) w s k = go FT (runK FT n) w s k := rfl
    rw [hun]
    cases w with
    | c c =>
      cases c with
      | skip => rfl
      | reg l => simp only [go, goC, run, ih]
      | draw q l => simp only [go, goC, run, ih]
      | any cuts q bs l =>
        simp only [go, goC, run, ih]
        split <;> rfl
      | seq a b =>
        simp only [go, goC, run, ih]
        cases run FT n (.c a) s with
        | none => rfl
        | some r => obtain ⟨e, s'⟩ := r; cases e <;> rfl
      | cond c a b =>
        simp only [go, goC, run, ih, hev]
        cases s.ev c with
        | v x =>
          cases x with
          | bool t => cases t <;> rfl
          | _ => rfl
        | _ => rfl
      | block id a =>
        simp only [go, goC, run, ih]
        cases run FT n (.c a) s with
        | none => rfl
        | some r =>
          obtain ⟨e, s'⟩ := r
          cases e with
          | exit j => by_cases h : j = id <;> simp [h]
          | _ => rfl
      | loop a =>
        simp only [go, goC, run, ih]
        cases run FT n (.c a) s with
        | none => rfl
        | some r => obtain ⟨e, s'⟩ := r; cases e <;> rfl
      | exit id => rfl
      | ret => rfl
    | l l =>
      cases l with
      | nil => rfl
      | cons r l =>
        cases r with
        | op dst g i =>
          simp only [go, goL, run, ih, opK_eq]
          cases stepOp s dst g i <;> rfl
        | call dst g f args =>
          simp only [go, goL, run, ih, hev, hmap, putK_eq, fNat_eq, fDs_eq]
          cases s.ev f with
          | fn c first caps =>
            simp only
            cases gateOn s g with
            | none => rfl
            | some b =>
              cases b with
              | false => rfl
              | true =>
                simp only
                cases run FT n (.f c (first ++ args.map s.ev ++ caps)) s with
                | none => rfl
                | some r =>
                  obtain ⟨e, t, m⟩ := r
                  match t with
                  | [] => rfl
                  | [d] => rfl
                  | _ :: _ :: _ => rfl
          | _ => rfl
    | dl q l =>
      cases q with
      | zero => simp only [go, goDL, run, ih]
      | succ q =>
        cases l with
        | nil => rfl
        | cons r l =>
          cases r with
          | op dst g i =>
            simp only [go, goDL, run, ih, opK_eq]
            cases stepOp s dst g i <;> rfl
          | call dst g f args =>
            simp only [go, goDL, run, ih, hev, hmap, putK_eq, fNat_eq, fDs_eq]
            cases s.ev f with
            | fn c first caps =>
              simp only
              cases gateOn s g with
              | none => rfl
              | some b =>
                cases b with
                | false => rfl
                | true =>
                  simp only
                  cases run FT n (.p c (first ++ args.map s.ev ++ caps)) s with
                  | none => rfl
                  | some r =>
                    obtain ⟨e, t, m⟩ := r
                    match t with
                    | [] => rfl
                    | [d] => rfl
                    | _ :: _ :: _ => rfl
            | _ => rfl
    | any bs rl q c L =>
      cases c with
      | zero => rfl
      | succ c =>
        simp only [go, goA, run, ih, fL_eq]
        cases readyL bs q L with
        | nil => rfl
        | cons i is =>
          simp only
          cases run FT n (.l (rl[i]?).toList) s with
          | none => rfl
          | some r =>
            obtain ⟨e, s1⟩ := r
            simp only
            cases run FT n (.any bs rl q c (L.set i true)) s1 with
            | none => rfl
            | some r =>
              obtain ⟨e, sf⟩ := r
              simp only
              have : (is.all fun j => match (match run FT n (.l (rl[j]?).toList) s with | some (_, s') => (match run FT n (.any bs rl q c (L.set j true)) s' with | some (e, s') => some (e, s') | none => none) | none => none) with | some (_, s') => eqSt s' sf | none => false)
                  = (is.all fun j => match run FT n (.l (rl[j]?).toList) s with | some (_, s1) => (match run FT n (.any bs rl q c (L.set j true)) s1 with | some (_, s') => eqSt s' sf | none => false) | none => false) := by
                congr 1
                funext j
                cases run FT n (.l (rl[j]?).toList) s with
                | none => rfl
                | some r =>
                  obtain ⟨e, s1⟩ := r
                  simp only
                  cases run FT n (.any bs rl q c (L.set j true)) s1 <;> rfl
              have key : ∀ b : Bool, (if b = true then k .normal sf else none) = (match (if b = true then some (Exit.normal, sf) else none) with | some (e, s') => k e s' | none => none) := by
                intro b; cases b <;> rfl
              rw [this]
              exact key _
    | seg ps lo bs l =>
      cases ps with
      | nil => simp only [go, goS, run, ih]
      | cons p ps =>
        simp only [go, goS, run, ih]
        cases run FT n (.any bs l p (p + 1) (List.replicate lo true ++ List.replicate (p - lo) false)) s <;> rfl
    | f c ds =>
      simp only [go, goF, run]
      cases FT c with
      | none => rfl
      | some p =>
        obtain ⟨F, md⟩ := p
        match md with
        | 0 =>
          simp only [ih, fL_eq, f1_eq, endK_eq]
          cases run FT n (.c F.code) ⟨ds ++ List.replicate (F.ntmps - ds.length) .dead, s.m⟩ with
          | none => rfl
          | some r =>
            obtain ⟨e, s'⟩ := r
            simp only
            cases ended F (some (e, s')) <;> rfl
        | 1 =>
          simp only [ih]
          cases run FT n (.p c ds) s with
          | none => rfl
          | some r =>
            obtain ⟨e, t, m⟩ := r
            match t with
            | [] => rfl
            | [d] => rfl
            | _ :: _ :: _ => rfl
        | md + 2 =>
          simp only [ih, fDs_eq, endK_eq]
          cases run FT n (.c F.code) ⟨ds.map (froz 8 s.m) ++ List.replicate (F.ntmps - ds.length) .dead, []⟩ with
          | none => rfl
          | some r =>
            obtain ⟨e, s'⟩ := r
            simp only
            cases ended F (some (e, s')) with
            | none => rfl
            | some p =>
              obtain ⟨d, m⟩ := p
              simp only
              by_cases hb : flat d = true
              · rw [if_pos hb, if_pos hb]
              · rw [if_neg hb, if_neg hb]
    | p c ds =>
      simp only [go, goP, run]
      cases FT c with
      | none => rfl
      | some p =>
        obtain ⟨F, md⟩ := p
        simp only
        split
        · simp only [ih, fL_eq, endK_eq]
          cases run FT n (.c F.code) ⟨ds ++ List.replicate (F.ntmps - ds.length) .dead, []⟩ with
          | none => rfl
          | some r =>
            obtain ⟨e, s'⟩ := r
            simp only
            cases ended F (some (e, s')) with
            | none => rfl
            | some p => simp [fD_eq]
        · rfl

variable {P : Program}

/-- The evaluator's end: is the one tree d, and are the resources m'. -/
def okK (r : Option (Exit × St)) (d : D) (m' : List Ent) : Bool :=
  match r with
  | some (_, s) => eqSt s ⟨[d], m'⟩
  | none => false

/-- A call, carried out. -/
theorem call_runK (hmix : P.follows .mixedOrders = true) {L : List (Nat × Fun)} (hL : TabOk P L) (md : Nat → Nat) (n : Nat) {k : Nat} {ds : List D} {m m' : List Ent} {d : D}
    (h : okK (runK (tabOf L md) n (.f k ds) ⟨[], m⟩ fun e s => some (e, s)) d m' = true) : CallT P k ds m fun d' m'' => d' = d ∧ m'' = m' := by
  rw [runK_eq] at h
  refine call_run hmix hL md n ?_
  unfold okK at h
  cases hr : run (tabOf L md) n (.f k ds) ⟨[], m⟩ with
  | none => rw [hr] at h; exact h
  | some r => rw [hr] at h; exact h

theorem call_runPK (hmix : P.follows .mixedOrders = true) {L : List (Nat × Fun)} (hL : TabOk P L) (md : Nat → Nat) (n : Nat) {k : Nat} {ds : List D} {d : D}
    (h : okK (runK (tabOf L md) n (.p k ds) ⟨[], []⟩ fun e s => some (e, s)) d [] = true) (m : List Ent) : CallT P k ds m fun d' m'' => d' = d ∧ m'' = m := by
  rw [runK_eq] at h
  refine call_runP hmix hL md n ?_ m
  unfold okK at h
  cases hr : run (tabOf L md) n (.p k ds) ⟨[], []⟩ with
  | none => rw [hr] at h; exact h
  | some r => rw [hr] at h; exact h
end

end
end Go.Tm
