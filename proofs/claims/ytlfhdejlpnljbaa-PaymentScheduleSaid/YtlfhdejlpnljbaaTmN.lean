/-
  Code and functions.
-/
import Derived.Test.YtlfhdejlpnljbaaTmM
set_option linter.unusedSimpArgs false
set_option linter.unusedVariables false
namespace Go.Tm
open Go.RowKit (Below)
section
variable {P : Program}

/-- From one state of memory to a later one, as far as the first N resources go. -/
structure StepN (N : Nat) (G : Gh) (w : World) (m : List Ent) (G' : Gh) (w' : World) (m' : List Ent) : Prop where
  F : ∀ b, G.F b → G'.F b
  heap : ∀ b, G.F b → w'.heap[b]? = w.heap[b]?
  n : N ≤ G'.n
  id : ∀ i, i < N → (G'.V i = G.V i ∧ G'.B i = G.B i ∧ G'.S i = G.S i ∧ G'.N i = G.N i ∧ G'.C i = G.C i) ∨ G.V i < G'.V i
  os : w'.os = w.os
  tape : w'.tape = w.tape
  output : w'.output = w.output
  size : w.heap.size ≤ w'.heap.size
  keep : ∀ b, b < w.heap.size → ¬ Owned G m b → w'.heap[b]? = w.heap[b]?
  newF : ∀ b, b < w.heap.size → G'.F b → G.F b ∨ Owned G m b
  newB : ∀ b, b < w.heap.size → Owned G' m' b → Owned G m b

theorem Step.toN {N : Nat} {G G' : Gh} {w w' : World} {m m' : List Ent} (h : Step G w m G' w' m') (hN : N ≤ G.n) : StepN N G w m G' w' m' :=
  ⟨h.le.F, h.le.heap, Nat.le_trans hN h.le.n, fun i hi => h.le.id i (Nat.lt_of_lt_of_le hi hN), h.os, h.tape, h.output, h.size, h.keep, h.newF, h.newB⟩

theorem StepN.toStep {G G' : Gh} {w w' : World} {m m' : List Ent} (h : StepN G.n G w m G' w' m') : Step G w m G' w' m' :=
  ⟨⟨h.F, h.heap, h.n, h.id⟩, h.os, h.tape, h.output, h.size, h.keep, h.newF, h.newB⟩

theorem StepN.refl {N : Nat} (G : Gh) (w : World) (m : List Ent) (hN : N ≤ G.n) : StepN N G w m G w m := (Step.refl G w m).toN hN

theorem StepN.trans {N : Nat} {G G' G'' : Gh} {w w' w'' : World} {m m' m'' : List Ent} (h : StepN N G w m G' w' m') (k : StepN N G' w' m' G'' w'' m'') : StepN N G w m G'' w'' m'' where
  F b hb := k.F b (h.F b hb)
  heap b hb := (k.heap b (h.F b hb)).trans (h.heap b hb)
  n := k.n
  id i hi := by
    have h1 := h.id i hi
    have h2 := k.id i hi
    rcases h1 with ⟨a1, a2, a3, a4, a5⟩ | h1 <;> rcases h2 with ⟨b1, b2, b3, b4, b5⟩ | h2
    · exact .inl ⟨b1.trans a1, b2.trans a2, b3.trans a3, b4.trans a4, b5.trans a5⟩
    · exact .inr (by omega)
    · exact .inr (by omega)
    · exact .inr (by omega)
  os := k.os.trans h.os
  tape := k.tape.trans h.tape
  output := k.output.trans h.output
  size := Nat.le_trans h.size k.size
  keep b hb ho := (k.keep b (Nat.lt_of_lt_of_le hb h.size) fun h' => ho (h.newB b hb h')).trans (h.keep b hb ho)
  newF b hb hF := by
    rcases k.newF b (Nat.lt_of_lt_of_le hb h.size) hF with h' | h'
    · exact h.newF b hb h'
    · exact .inr (h.newB b hb h')
  newB b hb h' := h.newB b hb (k.newB b (Nat.lt_of_lt_of_le hb h.size) h')

/-- Code, begun in a state that reads as s, ends in one that meets K; the first N resources are those that were there. -/
def T (P : Program) (N : Nat) (c : C) (K : Exit → St → Prop) (s : St) : Prop :=
  ∀ code, comp P code = some c → ∀ (G : Gh) (w : World) (a : Act), N ≤ G.n → Rel G w a s →
    code.wp P (fun e a' w' => ∃ s' G', K e s' ∧ Rel G' w' a' s' ∧ StepN N G w s.m G' w' s'.m) a w

variable {N : Nat}

theorem T.mono {c : C} {K K' : Exit → St → Prop} {s : St} (h : T P N c K s) (hK : ∀ e s', K e s' → K' e s') : T P N c K' s :=
  fun code hc G w a hN hr => Code.wp_mono (fun _ _ _ ⟨s', G', h1, h2⟩ => ⟨s', G', hK _ _ h1, h2⟩) (h code hc G w a hN hr)

/-- What is known may be told otherwise. -/
theorem T.ghost {c : C} {K : Exit → St → Prop} {s s' : St} (hg : ∀ (G : Gh) (w : World) (a : Act), N ≤ G.n → Rel G w a s → ∃ G', Rel G' w a s' ∧ StepN N G w s.m G' w s'.m) (h : T P N c K s') : T P N c K s := by
  intro code hc G w a hN hr
  obtain ⟨G', hr', hs'⟩ := hg G w a hN hr
  exact Code.wp_mono (fun _ _ _ ⟨s'', G'', h1, h2, h3⟩ => ⟨s'', G'', h1, h2, hs'.trans h3⟩) (h code hc G' w a hs'.n hr')

theorem comp_skip {code : Code} (h : comp P code = some .skip) : code = .skip ∨ ∃ l, code = .label l := by
  cases code with
  | region id ops draw =>
    cases draw with
    | false => simp [comp] at h
    | true => (simp only [comp] at h; repeat' split at h) <;> simp at h
  | seq a b => simp only [comp] at h; split at h <;> simp at h
  | cond c a b => simp only [comp] at h; split at h <;> simp at h
  | skip => exact .inl rfl
  | label l => exact .inr ⟨l, rfl⟩
  | _ => simp [comp] at h

theorem comp_ret {code : Code} (h : comp P code = some .ret) : code = .ret := by
  cases code with
  | region id ops draw =>
    cases draw with
    | false => simp [comp] at h
    | true => (simp only [comp] at h; repeat' split at h) <;> simp at h
  | seq a b => simp only [comp] at h; split at h <;> simp at h
  | cond c a b => simp only [comp] at h; split at h <;> simp at h
  | ret => rfl
  | _ => simp [comp] at h

theorem comp_exit {code : Code} {i : Nat} (h : comp P code = some (.exit i)) : code = .exit i := by
  cases code with
  | region id ops draw =>
    cases draw with
    | false => simp [comp] at h
    | true => (simp only [comp] at h; repeat' split at h) <;> simp at h
  | seq a b => simp only [comp] at h; split at h <;> simp at h
  | cond c a b => simp only [comp] at h; split at h <;> simp at h
  | exit j => simp [comp] at h; rw [h]
  | _ => simp [comp] at h

theorem comp_reg {code : Code} {l : List RI} (h : comp P code = some (.reg l)) : ∃ id ops, code = .region id ops false ∧ compOps P ops ops.toList = some l := by
  cases code with
  | region id ops draw =>
    cases draw with
    | true => (simp only [comp] at h; repeat' split at h) <;> simp at h
    | false => simp [comp] at h; exact ⟨id, ops, rfl, h⟩
  | seq a b => simp only [comp] at h; split at h <;> simp at h
  | cond c a b => simp only [comp] at h; split at h <;> simp at h
  | _ => simp [comp] at h

theorem comp_draw {code : Code} {q : Nat} {l : List RI} (h : comp P code = some (.draw q l)) : ∃ id ops, code = .region id ops true ∧ compOps P ops ops.toList = some l ∧ drawOk (befores ops) l q = true := by
  cases code with
  | region id ops draw =>
    cases draw with
    | false => simp [comp] at h
    | true =>
      simp only [comp] at h
      split at h
      · rename_i rl hrl
        split at h
        · rename_i hok
          simp only [Option.some.injEq, C.draw.injEq] at h
          obtain ⟨rfl, rfl⟩ := h
          exact ⟨id, ops, rfl, hrl, hok⟩
        · split at h <;> simp at h
      · cases h
  | seq a b => simp only [comp] at h; split at h <;> simp at h
  | cond c a b => simp only [comp] at h; split at h <;> simp at h
  | _ => simp [comp] at h

theorem comp_any {code : Code} {cuts : List Nat} {q : Nat} {bs : List (List Nat)} {l : List RI} (h : comp P code = some (.any cuts q bs l)) : ∃ id ops, code = .region id ops true ∧ bs = befores ops ∧ compOps P ops ops.toList = some l ∧ tailOk (befores ops) l cuts q = true := by
  cases code with
  | region id ops draw =>
    cases draw with
    | false => simp [comp] at h
    | true =>
      simp only [comp] at h
      split at h
      · rename_i rl hrl
        split at h
        · simp at h
        · split at h
          · rename_i hok
            simp only [Option.some.injEq, C.any.injEq] at h
            obtain ⟨rfl, rfl, rfl, rfl⟩ := h
            exact ⟨id, ops, rfl, rfl, hrl, hok⟩
          · cases h
      · cases h
  | seq a b => simp only [comp] at h; split at h <;> simp at h
  | cond c a b => simp only [comp] at h; split at h <;> simp at h
  | _ => simp [comp] at h

theorem comp_seq {code : Code} {c d : C} (h : comp P code = some (.seq c d)) : ∃ x y, code = .seq x y ∧ comp P x = some c ∧ comp P y = some d := by
  cases code with
  | region id ops draw =>
    cases draw with
    | false => simp [comp] at h
    | true => (simp only [comp] at h; repeat' split at h) <;> simp at h
  | seq a b =>
    simp only [comp] at h
    split at h
    · rename_i x y h1 h2; simp at h; exact ⟨a, b, rfl, by rw [h1, h.1], by rw [h2, h.2]⟩
    · simp at h
  | cond c a b => simp only [comp] at h; split at h <;> simp at h
  | _ => simp [comp] at h

theorem comp_cond {code : Code} {t : Operand} {c d : C} (h : comp P code = some (.cond t c d)) : ∃ x y, code = .cond t x y ∧ comp P x = some c ∧ comp P y = some d := by
  cases code with
  | region id ops draw =>
    cases draw with
    | false => simp [comp] at h
    | true => (simp only [comp] at h; repeat' split at h) <;> simp at h
  | seq a b => simp only [comp] at h; split at h <;> simp at h
  | cond t' a b =>
    simp only [comp] at h
    split at h
    · rename_i x y h1 h2; simp at h; exact ⟨a, b, by rw [h.1], by rw [h1, h.2.1], by rw [h2, h.2.2]⟩
    · simp at h
  | _ => simp [comp] at h

theorem comp_block {code : Code} {i : Nat} {c : C} (h : comp P code = some (.block i c)) : ∃ x, code = .block i x ∧ comp P x = some c := by
  cases code with
  | region id ops draw =>
    cases draw with
    | false => simp [comp] at h
    | true => (simp only [comp] at h; repeat' split at h) <;> simp at h
  | seq a b => simp only [comp] at h; split at h <;> simp at h
  | cond c a b => simp only [comp] at h; split at h <;> simp at h
  | block j b => simp [comp] at h; exact ⟨b, by rw [h.2], h.1⟩
  | _ => simp [comp] at h

theorem comp_loop {code : Code} {c : C} (h : comp P code = some (.loop c)) : ∃ x, code = .loop x ∧ comp P x = some c := by
  cases code with
  | region id ops draw =>
    cases draw with
    | false => simp [comp] at h
    | true => (simp only [comp] at h; repeat' split at h) <;> simp at h
  | seq a b => simp only [comp] at h; split at h <;> simp at h
  | cond c a b => simp only [comp] at h; split at h <;> simp at h
  | loop b => simp [comp] at h; exact ⟨b, rfl, h⟩
  | _ => simp [comp] at h

theorem T.skip {K : Exit → St → Prop} {s : St} (h : K .normal s) : T P N .skip K s := by
  intro code hc G w a hN hr
  rcases comp_skip hc with rfl | ⟨l, rfl⟩
  · exact wp_skip ⟨s, G, h, hr, StepN.refl _ _ _ hN⟩
  · exact wp_label ⟨s, G, h, hr, StepN.refl _ _ _ hN⟩

theorem T.ret {K : Exit → St → Prop} {s : St} (h : K .ret s) : T P N .ret K s := by
  intro code hc G w a hN hr
  obtain rfl := comp_ret hc
  exact wp_ret ⟨s, G, h, hr, StepN.refl _ _ _ hN⟩

theorem T.exit {id : Nat} {K : Exit → St → Prop} {s : St} (h : K (.exit id) s) : T P N (.exit id) K s := by
  intro code hc G w a hN hr
  obtain rfl := comp_exit hc
  exact wp_exit ⟨s, G, h, hr, StepN.refl _ _ _ hN⟩

theorem T.reg {l : List RI} {K : Exit → St → Prop} {s : St} (h : RegT P l (K .normal) s) : T P N (.reg l) K s := by
  intro code hc G w a hN hr
  obtain ⟨id, ops, rfl, hc'⟩ := comp_reg hc
  exact wp_region_list (regT_sound hc' h hr fun s' G' w' a' h1 h2 h3 => ⟨s', G', h1, h2, h3.toN hN⟩)

theorem T.seq {c d : C} {K : Exit → St → Prop} {s : St} (h : T P N c (fun e s' => match e with | .normal => T P N d K s' | e => K e s') s) : T P N (.seq c d) K s := by
  intro code hc G w a hN hr
  obtain ⟨x, y, rfl, h1, h2⟩ := comp_seq hc
  refine wp_seq (Code.wp_mono ?_ (h x h1 G w a hN hr))
  rintro e a' w' ⟨s', G', hK, hr', hs'⟩
  cases e with
  | normal => exact Code.wp_mono (fun _ _ _ ⟨s'', G'', k1, k2, k3⟩ => ⟨s'', G'', k1, k2, hs'.trans k3⟩) (hK y h2 G' w' a' hs'.n hr')
  | _ => exact ⟨s', G', hK, hr', hs'⟩

theorem T.cond {c : Operand} {x y : C} {t : Bool} {K : Exit → St → Prop} {s : St} (ht : s.ev c = .v (.bool t)) (h1 : t = true → T P N x K s) (h2 : t = false → T P N y K s) : T P N (.cond c x y) K s := by
  intro code hc G w a hN hr
  obtain ⟨x', y', rfl, e1, e2⟩ := comp_cond hc
  have hv := hr.ev c
  rw [ht] at hv
  simp only [VRel] at hv
  exact wp_cond_split hv (fun e => h1 e x' e1 G w a hN hr) (fun e => h2 e y' e2 G w a hN hr)

theorem T.block {id : Nat} {x : C} {K : Exit → St → Prop} {s : St} (h : T P N x (fun e s' => match e with | .exit id' => if id' = id then K .normal s' else K (.exit id') s' | e => K e s') s) : T P N (.block id x) K s := by
  intro code hc G w a hN hr
  obtain ⟨b, rfl, hx⟩ := comp_block hc
  refine wp_block (Code.wp_mono ?_ (h b hx G w a hN hr))
  rintro e a' w' ⟨s', G', hK, hr', hs'⟩
  cases e with
  | exit j =>
    simp only [Exit.inBlock]
    simp only at hK
    split
    · rename_i hj; rw [if_pos hj] at hK; exact ⟨s', G', hK, hr', hs'⟩
    · rename_i hj; rw [if_neg hj] at hK; exact ⟨s', G', hK, hr', hs'⟩
  | _ => exact ⟨s', G', hK, hr', hs'⟩

/-- A loop: what holds at every round's head, and a measure that each round lowers. -/
theorem wp_loop_ghost {c : Code} {Q : Exit → Act → World → Prop} {X : Type} (J : X → Act → World → Prop) (μ : X → Nat)
    (round : ∀ x a w, J x a w → c.wp P (Exit.then (fun a' w' => ∃ y, J y a' w' ∧ μ y < μ x) Q) a w) : ∀ (x : X) (a : Act) (w : World), J x a w → (Code.loop c).wp P Q a w := by
  intro x₀ a₀ w₀ h₀ b k cs
  have key : ∀ n (x : X) a w, μ x = n → J x a w →
      ∃ e a' w', Q e a' w' ∧ Arrives P (lone (b.at a (.code c :: .inLoop c :: k)) cs w) b k cs e a' w' := by
    intro n
    induction n using Nat.strongRecOn with
    | _ n ih =>
      intro x a w hn hI
      obtain ⟨e, a₁, w₁, hq, harr⟩ := round x a w hI b (.inLoop c :: k) cs
      cases e with
      | normal =>
        obtain ⟨y, hI₁, hlt⟩ := hq
        obtain ⟨e₂, a₂, w₂, hq₂, harr₂⟩ := ih (μ y) (hn ▸ hlt) y a₁ w₁ rfl hI₁
        exact ⟨e₂, a₂, w₂, hq₂, .of_steps (Steps.trans harr (.one step_inLoop)) harr₂⟩
      | exit id => exact ⟨_, a₁, w₁, hq, .pass (x := .inLoop c) rfl (fun _ _ => .inl (by simp)) harr⟩
      | goto l => exact ⟨_, a₁, w₁, hq, .pass (x := .inLoop c) rfl (fun _ _ => .inl (by simp)) harr⟩
      | ret => exact ⟨_, a₁, w₁, hq, .pass (x := .inLoop c) rfl (fun _ _ => .inl (by simp)) harr⟩
      | panic ch => exact ⟨_, a₁, w₁, hq, .pass (x := .inLoop c) rfl (fun _ _ => .inl (by simp)) harr⟩
      | outgrown => exact ⟨_, a₁, w₁, hq, .pass (x := .inLoop c) rfl (fun _ _ => .inl (by simp)) harr⟩
  obtain ⟨e, a', w', hq, harr⟩ := key _ x₀ a₀ w₀ rfl h₀
  exact ⟨e, a', w', hq, .of_steps (.one step_loop) harr⟩

theorem T.loopI {x : C} {K : Exit → St → Prop} {s : St} {X : Type} (J : X → St → Prop) (μ : X → Nat) (x₀ : X) (h0 : J x₀ s)
    (round : ∀ y s, J y s → T P N x (fun e s' => match e with | .normal => ∃ z, J z s' ∧ μ z < μ y | e => K e s') s) : T P N (.loop x) K s := by
  intro code hc G w a hN hr
  obtain ⟨b, rfl, hx⟩ := comp_loop hc
  refine wp_loop_ghost (J := fun (y : X) a' w' => ∃ s' G', J y s' ∧ Rel G' w' a' s' ∧ StepN N G w s.m G' w' s'.m) μ ?_ x₀ a w ⟨s, G, h0, hr, StepN.refl _ _ _ hN⟩
  rintro y a1 w1 ⟨s1, G1, hI, hr1, hs1⟩
  refine Code.wp_mono ?_ (round y s1 hI b hx G1 w1 a1 hs1.n hr1)
  rintro e a' w' ⟨s', G', hK, hr', hs'⟩
  cases e with
  | normal => obtain ⟨z, h1, h2⟩ := hK; exact ⟨z, ⟨s', G', h1, hr', hs1.trans hs'⟩, h2⟩
  | _ => exact ⟨s', G', hK, hr', hs1.trans hs'⟩

/-- A function's results. -/
def resD (s : St) : RV → Option D
  | .tmp t => some (s.t.getD t .dead)
  | .cell A n a =>
    match evalI s (.load A n (.tmp a)) with
    | some (d, _) => some d
    | none => none

def ressD (s : St) : List RV → Option (List D)
  | [] => some []
  | r :: l =>
    match resD s r, ressD s l with
    | some d, some ds => some (d :: ds)
    | _, _ => none

def tupD : List D → D
  | [d] => d
  | l => .tup l

/-- A result, as the model fetches it. -/
def resSem (tmps : Array Value) : ResultVar → Sem Value
  | .tmp t => pure (tmps.getD t undef)
  | .cell a t => do loadVar t (← asAddr (tmps.getD a undef))

theorem results_eq (fn : Func) (tmps : Array Value) : results fn tmps = (do let vs ← fn.results.mapM (resSem tmps); pure (if h : vs.size = 1 then vs[0] else .tuple vs)) := by
  unfold results
  rfl

theorem run_ress : ∀ {l : List ResultVar} {rl : List RV} {s : St} {G : Gh} {w : World} {a : Act} {ds : List D}, compRVs P l = some rl → Rel G w a s → ressD s rl = some ds →
    ∃ us : List Value, (l.mapM (resSem a.tmps)).run P w = .ok us w ∧ VsRel G w ds us
  | [], rl, s, G, w, a, ds, hc, hr, hd => by
    simp only [compRVs] at hc
    injection hc with hc; subst hc
    simp only [ressD] at hd
    injection hd with hd; subst hd
    exact ⟨[], by simp, by simp [VsRel]⟩
  | r :: l, rl, s, G, w, a, ds, hc, hr, hd => by
    simp only [compRVs] at hc
    split at hc
    · rename_i x y h1 h2
      injection hc with hc; subst hc
      simp only [ressD] at hd
      split at hd
      · rename_i d ds' h3 h4
        injection hd with hd; subst hd
        obtain ⟨us, hrun, hv⟩ := run_ress h2 hr h4
        cases r with
        | tmp t =>
          simp only [compRV] at h1
          injection h1 with h1; subst h1
          simp only [resD] at h3
          injection h3 with h3; subst h3
          have hx := hr.ev (.tmp t)
          simp only [St.ev, Act.eval] at hx
          refine ⟨a.tmps.getD t undef :: us, ?_, by simp only [VsRel]; exact ⟨_, _, rfl, hx, hv⟩⟩
          simp only [List.mapM_cons, resSem, Sem.run_bind, Sem.run_pure, Result.andThen_ok, hrun]
        | cell p t =>
          simp only [compRV, Option.map_eq_some_iff] at h1
          obtain ⟨q, hq, rfl⟩ := h1
          simp only [resD] at h3
          split at h3
          · rename_i e m0 he
            injection h3 with h3; subst h3
            obtain ⟨ad, u, hp, hrl, hvd, -⟩ := load_run (P := P) hr hq he
            simp only [Act.eval] at hp
            refine ⟨u :: us, ?_, by simp only [VsRel]; exact ⟨_, _, rfl, hvd, hv⟩⟩
            simp only [List.mapM_cons, resSem, hp, asAddr, Sem.run_bind, Sem.run_pure, Result.andThen_ok, hrl, hrun]
          · cases h3
      · cases hd
    · cases hc

/-- What holds at a function's end. -/
def EndT (rs : List RV) (R : D → List Ent → Prop) : Exit → St → Prop
  | .normal, s => ∃ ds, ressD s rs = some ds ∧ R (tupD ds) s.m
  | .ret, s => ∃ ds, ressD s rs = some ds ∧ R (tupD ds) s.m
  | _, _ => False

theorem tup_rel {G : Gh} {w : World} {ds : List D} {us : List Value} (h : VsRel G w ds us) : VRel G w (tupD ds) (if h : us.toArray.size = 1 then us.toArray[0] else .tuple us.toArray) := by
  match ds, h with
  | [], h =>
    simp only [VsRel] at h
    subst h
    simp only [List.size_toArray, List.length_nil, tupD]
    rw [dif_neg (by decide)]
    simp only [VRel, VsRel]
    exact ⟨[], rfl, rfl⟩
  | [d], h =>
    simp only [VsRel] at h
    obtain ⟨u, r, rfl, hv, rfl⟩ := h
    simpa [tupD] using hv
  | d :: e :: l, h =>
    have hl := h.length
    rw [dif_neg (by simp at hl ⊢; omega)]
    simp only [tupD, VRel]
    exact ⟨us, rfl, h⟩

theorem run_results {fn : Func} {F : Fun} {s : St} {G : Gh} {w : World} {a : Act} {ds : List D} (hc : compRVs P fn.results.toList = some F.results) (hr : Rel G w a s) (hd : ressD s F.results = some ds) :
    ∃ v, (results fn a.tmps).run P w = .ok v w ∧ VRel G w (tupD ds) v := by
  obtain ⟨us, hrun, hv⟩ := run_ress hc hr hd
  refine ⟨_, ?_, tup_rel hv⟩
  rw [results_eq, Array.mapM_eq_mapM_toList]
  simp only [Sem.run_bind, Sem.run_map, hrun, Result.andThen_ok, Sem.run_pure]

theorem vs_dead (G : Gh) (w : World) : ∀ n, VsRel G w (List.replicate n .dead) (List.replicate n undef)
  | 0 => by simp [VsRel]
  | n + 1 => by simp only [List.replicate_succ, VsRel]; exact ⟨_, _, rfl, by simp [VRel], vs_dead G w n⟩

/-- A function's contract, out of its code. -/
theorem callT_of {f : FuncId} {F : Fun} {ds : List D} {m : List Ent} {R : D → List Ent → Prop} (hF : compF P f = some F) (hname : ((P.funcs[f]?).map fun fn => fn.name == "runtime.NumGoroutine") = some false)
    (h : T P m.length F.code (EndT F.results R) ⟨ds ++ List.replicate (F.ntmps - ds.length) .dead, m⟩) : CallT P f ds m R := by
  unfold compF at hF
  split at hF
  · rename_i fn hfn
    split at hF
    · rename_i b r hb hres
      simp only [Option.map_eq_some_iff] at hF
      obtain ⟨c, hc, rfl⟩ := hF
      refine ⟨⟨fn, hfn, by simpa [hfn] using hname, by rw [hb]; rfl⟩, fun G w vs hv hi => ?_⟩
      refine calls_of_wp hfn hb ?_
      have hlen := hv.length
      have hr : Rel G w { tmps := vs.toArray ++ Array.replicate (fn.ntmps - vs.toArray.size) undef, defers := [] } ⟨ds ++ List.replicate (fn.ntmps - ds.length) .dead, m⟩ := by
        refine ⟨?_, hi, rfl⟩
        simp only [Array.toList_append, Array.toList_replicate, List.size_toArray, hlen]
        exact hv.append (vs_dead _ _ _)
      refine Code.wp_mono ?_ (h b hc G w _ (by rw [hi.n]; exact Nat.le_refl _) hr)
      rintro e a' w' ⟨s', G', hK, hr', hs0⟩
      have hs' : Step G w m G' w' s'.m := by rw [← hi.n] at hs0; exact hs0.toStep
      have fin : (∃ ds, ressD s' r = some ds ∧ R (tupD ds) s'.m) → a'.defers = [] ∧ ∃ v, (results fn a'.tmps).run P w' = .ok v w' ∧ ∃ v_1 d m' G', Ending.returned v = .returned v_1 ∧ R d m' ∧ VRel G' w' d v_1 ∧ Inv G' w' m' ∧ Step G w m G' w' m' := by
        rintro ⟨es, hes, hR⟩
        obtain ⟨v, hrun, hv'⟩ := run_results (F := ⟨fn.ntmps, r, c⟩) hres hr' hes
        exact ⟨hr'.defers, v, hrun, v, _, _, G', rfl, hR, hv', hr'.inv, hs'⟩
      cases e with
      | normal => exact fin hK
      | ret => exact fin hK
      | _ => exact hK.elim
    · cases hF
  · cases hF
end
end Go.Tm
