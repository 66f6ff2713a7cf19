/-
  Code as one statement, in a form that simp works out from the outside in; loops.
-/
import Derived.Test.YtlfhdejlpnljbaaTmZ
set_option linter.unusedSimpArgs false
set_option linter.unusedVariables false
namespace Go.Tm
variable {P : Program} {N : Nat}

def andT (r : Option (D × List Ent)) (f : D → List Ent → Prop) : Prop :=
  match r with
  | some p => f p.1 p.2
  | none => False

@[congr] theorem andT_congr {r r' : Option (D × List Ent)} {f : D → List Ent → Prop} (h : r = r') : andT r f = andT r' f := by rw [h]

theorem andT_some (d : D) (m : List Ent) (f : D → List Ent → Prop) : andT (some (d, m)) f = f d m := Eq.trans rfl rfl

theorem andT_iff (r : Option (D × List Ent)) (f : D → List Ent → Prop) : andT r f ↔ ∃ d m', r = some (d, m') ∧ f d m' := by
  cases r with
  | none => simp [andT]
  | some p =>
    obtain ⟨d, m⟩ := p
    simp only [andT]
    exact ⟨fun h => ⟨d, m, rfl, h⟩, fun ⟨_, _, h1, h2⟩ => by injection h1 with h1; injection h1 with h1 h3; rw [h1, h3]; exact h2⟩

/-- A call's contract, and what comes behind. -/
def callX (P : Program) (k : Nat) (ds : List D) (m : List Ent) (f : D → List Ent → Prop) : Prop := CallT P k ds m f

@[congr] theorem callX_congr {k k' : Nat} {ds ds' : List D} {m m' : List Ent} {f : D → List Ent → Prop} (h1 : k = k') (h2 : ds = ds') (h3 : m = m') : callX P k ds m f = callX P k' ds' m' f := by rw [h1, h2, h3]

/-- From a contract. -/
theorem callX_of {k : Nat} {ds : List D} {m : List Ent} {R f : D → List Ent → Prop} (h : CallT P k ds m R) (hR : ∀ d m', R d m' → f d m') : callX P k ds m f := h.mono hR

theorem callX_eq {k : Nat} {ds : List D} {m m1 : List Ent} {d1 : D} {f : D → List Ent → Prop} (h : CallT P k ds m fun d m' => d = d1 ∧ m' = m1) (hf : f d1 m1) : callX P k ds m f :=
  h.mono fun d m' ⟨h1, h2⟩ => by rw [h1, h2]; exact hf

def gateX (c b : Bool) (yes no : Prop) : Prop := (c = b → yes) ∧ (c ≠ b → no)

/-- A region's operations, one after the other. -/
def RegX (P : Program) : List RI → (St → Prop) → St → Prop
  | [], K, s => K s
  | .op dst g i :: l, K, s =>
    match gate s g with
    | none => False
    | some none => andT (evalI s i) fun d m' => RegX P l K ({ s with m := m' }.put dst d)
    | some (some (c, b)) => (c = b → andT (evalI s i) fun d m' => RegX P l K ({ s with m := m' }.put dst d)) ∧ (c ≠ b → RegX P l K (s.put dst (.v undef)))
  | .call dst g f args :: l, K, s =>
    match s.ev f with
    | .fn k first caps =>
      match gate s g with
      | none => False
      | some none => callX P k (first ++ args.map s.ev ++ caps) s.m fun d m' => RegX P l K ({ s with m := m' }.put dst d)
      | some (some (c, b)) => (c = b → callX P k (first ++ args.map s.ev ++ caps) s.m fun d m' => RegX P l K ({ s with m := m' }.put dst d)) ∧ (c ≠ b → RegX P l K (s.put dst (.v undef)))
    | _ => False

theorem regX_T : ∀ {l : List RI} {K : St → Prop} {s : St}, RegX P l K s → RegT P l K s
  | [], K, s, h => h
  | .op dst g i :: l, K, s, h => by
    simp only [RegX] at h
    simp only [RegT]
    split at h
    · exact h.elim
    · rename_i hg
      rw [hg]
      obtain ⟨d, m', h1, h2⟩ := (andT_iff _ _).1 h
      exact ⟨d, m', h1, regX_T h2⟩
    · rename_i c b hg
      rw [hg]
      refine ⟨fun e => ?_, fun e => regX_T (h.2 e)⟩
      obtain ⟨d, m', h1, h2⟩ := (andT_iff _ _).1 (h.1 e)
      exact ⟨d, m', h1, regX_T h2⟩
  | .call dst g f args :: l, K, s, h => by
    simp only [RegX] at h
    simp only [RegT]
    split at h
    · rename_i k first caps hf
      rw [hf]
      split at h
      · exact h.elim
      · rename_i hg
        rw [hg]
        exact h.mono fun _ _ h2 => regX_T h2
      · rename_i c b hg
        rw [hg]
        exact ⟨fun e => (h.1 e).mono fun _ _ h2 => regX_T h2, fun e => regX_T (h.2 e)⟩
    · exact h.elim

/-- Is there a loop, or an open order, in the code. -/
def C.loops : C → Bool
  | .loop _ => true
  | .any .. => true
  | .draw .. => true
  | .seq a b => a.loops || b.loops
  | .cond _ a b => a.loops || b.loops
  | .block _ a => a.loops
  | _ => false

/-- The parts of a sequence. -/
def seqX (b : Bool) (x y : Prop) : Prop := if b = true then x else y

/-- What is left to show of code without loops ahead. -/
def Y (P : Program) (N : Nat) : C → (Exit → St → Prop) → St → Prop
  | .skip, K, s => K .normal s
  | .reg l, K, s => RegX P l (K .normal) s
  | .draw q l, K, s => T P N (.draw q l) K s
  | .any cuts q bs l, K, s => T P N (.any cuts q bs l) K s
  | .seq a b, K, s =>
    match a.loops with
    | true => T P N (.seq a b) K s
    | false => Y P N a (fun e s' => match e with | .normal => Y P N b K s' | e => K e s') s
  | .cond c a b, K, s =>
    match s.ev c with
    | .v (.bool t) => (t = true → Y P N a K s) ∧ (t = false → Y P N b K s)
    | _ => False
  | .block id a, K, s =>
    match a.loops with
    | true => T P N (.block id a) K s
    | false => Y P N a (fun e s' => match e with | .exit id' => if id' = id then K .normal s' else K (.exit id') s' | e => K e s') s
  | .loop a, K, s => T P N (.loop a) K s
  | .exit id, K, s => K (.exit id) s
  | .ret, K, s => K .ret s

theorem Y.T : ∀ {c : C} {K : Exit → St → Prop} {s : St}, Y P N c K s → T P N c K s
  | .skip, K, s, h => T.skip h
  | .reg l, K, s, h => T.reg (regX_T h)
  | .draw q l, K, s, h => h
  | .any cuts q bs l, K, s, h => h
  | .seq a b, K, s, h => by
    simp only [Y] at h
    split at h
    · exact h
    · refine T.seq ((Y.T h).mono ?_)
      intro e s' h'
      cases e with
      | normal => exact Y.T h'
      | _ => exact h'
  | .cond c a b, K, s, h => by
    simp only [Y] at h
    split at h
    · rename_i t ht
      exact T.cond ht (fun e => Y.T (h.1 e)) (fun e => Y.T (h.2 e))
    · exact h.elim
  | .block id a, K, s, h => by
    simp only [Y] at h
    split at h
    · exact h
    · exact T.block ((Y.T h).mono fun e s' h' => by cases e <;> exact h')
  | .loop a, K, s, h => h
  | .exit id, K, s, h => T.exit h
  | .ret, K, s, h => T.ret h

/-- The first part of a sequence that holds a loop: what comes behind stays shut. -/
theorem Y.seq {a b : C} {K : Exit → St → Prop} {s : St} (h : Y P N a (fun e s' => match e with | .normal => Tm.T P N b K s' | e => K e s') s) : Tm.T P N (.seq a b) K s :=
  T.seq (Y.T h)

/-- The end of a loop: the state reads as S z. -/
def Ends {X : Type} (S : X → St) (good : X → Prop) (s' : St) : Prop := ∃ z, good z ∧ Subs s'.t (S z).t ∧ ∃ g, s'.m = (S z).m ++ g

/-- **A loop, and the code behind it.** -/
theorem T.blk {id : Nat} {x b : C} {K : Exit → St → Prop} {s : St} {X : Type} (S : X → St) (good fin : X → Prop) (μ : X → Nat) (x₀ : X) (h0 : good x₀) (ht : Subs s.t (S x₀).t) (hm : s.m = (S x₀).m)
    (hb : ∀ y, good y ∨ fin y → N ≤ (S y).m.length ∧ belows (S y).m.length (S y).t = true ∧ (S y).m.all (Ent.below (S y).m.length) = true)
    (round : ∀ y, good y → Tm.T P N x (fun e s' => match e with | .normal => ∃ z, good z ∧ μ z < μ y ∧ Subs s'.t (S z).t ∧ ∃ g, s'.m = (S z).m ++ g | .exit j => j = id ∧ Ends S fin s' | e => K e s') (S y))
    {K' : Exit → St → Prop} (hK : ∀ s', Tm.T P N b K' s' → K .normal s') (rest : ∀ z, fin z → Tm.T P N b K' (S z)) : Tm.T P N (.block id (.loop x)) K s := by
  have bare : ∀ s', Ends S fin s' → K .normal s' := by
    rintro s' ⟨z, hz, h1, g, h2⟩
    obtain ⟨b1, b2, b3⟩ := hb z (.inr hz)
    refine hK s' ?_
    refine T.sub (S z).t h1 ?_
    refine T.trim (S z).m.length b1 (by simp [h2]) b2 (by simpa [h2] using b3) ?_
    have hst : (⟨(S z).t, s'.m.take (S z).m.length⟩ : St) = S z := by rw [h2, List.take_left]
    simp only [hst]
    exact rest z hz
  refine T.block (T.loopS S good μ x₀ h0 ht hm (fun y hy => hb y (.inl hy)) fun y hy => (round y hy).mono ?_)
  intro e s' h
  cases e with
  | normal => exact h
  | exit j =>
    obtain ⟨rfl, h⟩ := h
    simp only [if_true]
    exact bare s' h
  | _ => exact h


theorem Subs.cons {d e : D} {l r : List D} (h1 : Sub d e) (h2 : Subs l r) : Subs (d :: l) (e :: r) := by
  simp only [Subs]
  exact ⟨e, r, rfl, h1, h2⟩

theorem Sub.toDead (d : D) : Sub d .dead := by cases d <;> simp [Sub]

/-- Does the state name no resources and hold none. -/
theorem free_ok {N : Nat} {s : St} (hN : N = 0) (hm : s.m = []) (ht : idfrees s.t = true) : N ≤ s.m.length ∧ belows s.m.length s.t = true ∧ s.m.all (Ent.below s.m.length) = true := by
  refine ⟨by omega, belows_free _ _ ht, by simp [hm]⟩
end Go.Tm
