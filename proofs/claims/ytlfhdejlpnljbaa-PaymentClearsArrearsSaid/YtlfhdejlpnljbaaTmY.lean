/-
  The evaluator, each value worked out before it is used, for the kernel.
-/
import Derived.Test.YtlfhdejlpnljbaaTmX
set_option linter.unusedSimpArgs false
set_option linter.unusedVariables false
namespace Go.Tm
variable {α : Type}

def fNat (n : Nat) (f : Nat → α) : α := Nat.rec (f 0) (fun k _ => f (k + 1)) n

theorem fNat_eq (n : Nat) (f : Nat → α) : fNat n f = f n := by cases n <;> rfl

def fInt (n : Int) (f : Int → α) : α :=
  match n with
  | .ofNat n => fNat n fun n => f (.ofNat n)
  | .negSucc n => fNat n fun n => f (.negSucc n)

theorem fInt_eq (n : Int) (f : Int → α) : fInt n f = f n := by cases n <;> simp [fInt, fNat_eq]

def fV (v : Value) (f : Value → α) : α :=
  match v with
  | .int k n => fInt n fun n => match k with
    | .i8 => f (.int .i8 n) | .i16 => f (.int .i16 n) | .i32 => f (.int .i32 n) | .i64 => f (.int .i64 n)
    | .u8 => f (.int .u8 n) | .u16 => f (.int .u16 n) | .u32 => f (.int .u32 n) | .u64 => f (.int .u64 n)
  | .bool b => match b with
    | true => f (.bool true)
    | false => f (.bool false)
  | v => f v

theorem fV_eq (v : Value) (f : Value → α) : fV v f = f v := by
  cases v <;> simp only [fV]
  · rename_i b; cases b <;> rfl
  · rename_i k n; rw [fInt_eq]; cases k <;> rfl

mutual
def fD (d : D) (f : D → α) : α :=
  match d with
  | .v x => fV x fun x => f (.v x)
  | .agg l => fDs l fun l => f (.agg l)
  | .tup l => fDs l fun l => f (.tup l)
  | .sl S l => fNat S fun S => fDs l fun l => f (.sl S l)
  | .pt d => fD d fun d => f (.pt d)
  | .ref a b c d => fNat a fun a => fNat b fun b => fNat c fun c => fNat d fun d => f (.ref a b c d)
  | .own a b => fNat a fun a => fNat b fun b => f (.own a b)
  | .view a b c d => fNat a fun a => fNat b fun b => fNat c fun c => fNat d fun d => f (.view a b c d)
  | .fn g a b => fNat g fun g => fDs a fun a => fDs b fun b => f (.fn g a b)
  | .mp a => fNat a fun a => f (.mp a)
  | .dead => f .dead
def fDs (l : List D) (f : List D → α) : α :=
  match l with
  | [] => f []
  | d :: l => fD d fun d => fDs l fun l => f (d :: l)
end

mutual
theorem fD_eq : ∀ (d : D) (f : D → α), fD d f = f d
  | .v x, f => by simp [fD, fV_eq]
  | .agg l, f => by simp [fD, fDs_eq l]
  | .tup l, f => by simp [fD, fDs_eq l]
  | .sl S l, f => by simp [fD, fNat_eq, fDs_eq l]
  | .pt d, f => by simp [fD, fD_eq d]
  | .ref .., f => by simp [fD, fNat_eq]
  | .own .., f => by simp [fD, fNat_eq]
  | .view .., f => by simp [fD, fNat_eq]
  | .fn g a b, f => by simp [fD, fNat_eq, fDs_eq a, fDs_eq b]
  | .mp .., f => by simp [fD, fNat_eq]
  | .dead, f => by simp [fD]
theorem fDs_eq : ∀ (l : List D) (f : List D → α), fDs l f = f l
  | [], f => by simp [fDs]
  | d :: l, f => by simp [fDs, fD_eq d, fDs_eq l]
end

/-- The list's own build, not its members. -/
def fL {β : Type} (l : List β) (f : List β → α) : α :=
  match l with
  | [] => f []
  | d :: l => fL l fun l => f (d :: l)

theorem fL_eq {β : Type} : ∀ (l : List β) (f : List β → α), fL l f = f l
  | [], f => rfl
  | d :: l, f => by simp [fL, fL_eq l]

def fE (e : Ent) (f : Ent → α) : α :=
  match e with
  | .live S v l => fNat S fun S => fNat v fun v => fDs l fun l => f (.live S v l)
  | e => f e

theorem fE_eq (e : Ent) (f : Ent → α) : fE e f = f e := by cases e <;> simp [fE, fNat_eq, fDs_eq]

def fM (l : List Ent) (f : List Ent → α) : α :=
  match l with
  | [] => f []
  | e :: l => fE e fun e => fM l fun l => f (e :: l)

theorem fM_eq : ∀ (l : List Ent) (f : List Ent → α), fM l f = f l
  | [], f => rfl
  | d :: l, f => by simp [fM, fE_eq, fM_eq l]

/-- The list as it stands. -/
def f1 {β : Type} (l : List β) (f : List β → α) : α :=
  match l with
  | [] => f []
  | d :: l => f (d :: l)

theorem f1_eq {β : Type} (l : List β) (f : List β → α) : f1 l f = f l := by cases l <;> rfl

def fMi (i : I) (l : List Ent) (f : List Ent → α) : α := if i.cls ≤ 1 then f1 l f else fM l f

theorem fMi_eq (i : I) (l : List Ent) (f : List Ent → α) : fMi i l f = f l := by unfold fMi; split <;> simp [f1_eq, fM_eq]

/-- One operation's result is put in its place. -/
def putF (t : List D) (dst : Option Tmp) (d : D) (m : List Ent) (f : St → α) : α :=
  match dst with
  | some i => fL (t.set i d) fun t => f ⟨t, m⟩
  | none => f ⟨t, m⟩

theorem putF_eq (t : List D) (dst : Option Tmp) (d : D) (m : List Ent) (f : St → α) : putF t dst d m f = f ((⟨t, m⟩ : St).put dst d) := by
  cases dst <;> simp [putF, St.put, fL_eq]

def stepF (s : St) (dst : Option Tmp) (g : Option (Tmp × Bool)) (i : I) (f : St → Option α) : Option α :=
  match gate s g with
  | none => none
  | some none =>
    match evalI s i with
    | some (d, m') => fD d fun d => fMi i m' fun m' => putF s.t dst d m' f
    | none => none
  | some (some (c, b)) =>
    if c = b then
      match evalI s i with
      | some (d, m') => fD d fun d => fMi i m' fun m' => putF s.t dst d m' f
      | none => none
    else putF s.t dst (.v undef) s.m f

theorem stepF_eq (s : St) (dst : Option Tmp) (g : Option (Tmp × Bool)) (i : I) (f : St → Option α) : stepF s dst g i f = (match stepOp s dst g i with | some s' => f s' | none => none) := by
  unfold stepF stepOp
  cases gate s g with
  | none => rfl
  | some o =>
    cases o with
    | none =>
      cases evalI s i with
      | none => rfl
      | some r => simp [fD_eq, fMi_eq, putF_eq]
    | some cb =>
      obtain ⟨c, b⟩ := cb
      by_cases h : c = b
      · simp only [h, if_true]
        cases evalI s i with
        | none => rfl
        | some r => simp [fD_eq, fMi_eq, putF_eq]
      · simp [h, putF_eq]

end Go.Tm
