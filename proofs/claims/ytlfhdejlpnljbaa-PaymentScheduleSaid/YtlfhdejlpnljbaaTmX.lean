/-
  Code carried out on trees by a program: for calls whose arguments are known.
-/
import Derived.Test.YtlfhdejlpnljbaaTmR
set_option linter.unusedSimpArgs false
set_option linter.unusedVariables false
namespace Go.Tm

/-- Equality of simple cells. -/
def eqV : Value → Value → Bool
  | .int j a, .int k b => j == k && a == b
  | .bool a, .bool b => a == b
  | .string a, .string b => a == b
  | .slice none 0 0, .slice none 0 0 => true
  | .pointer none, .pointer none => true
  | .map none, .map none => true
  | .nilFunc, .nilFunc => true
  | .nilIface, .nilIface => true
  | .tuple ⟨[]⟩, .tuple ⟨[]⟩ => true
  | _, _ => false

theorem eqV_eq {a b : Value} (h : eqV a b = true) : a = b := by
  unfold eqV at h
  split at h
  · simp at h; rw [h.1, h.2]
  · simp at h; rw [h]
  · rw [bytes_beq h]
  all_goals first | rfl | cases h

mutual
def eqD : D → D → Bool
  | .v a, .v b => eqV a b
  | .agg a, .agg b => eqDs a b
  | .tup a, .tup b => eqDs a b
  | .sl S a, .sl T b => S == T && eqDs a b
  | .pt a, .pt b => eqD a b
  | .ref a b c d, .ref e f g h => a == e && b == f && c == g && d == h
  | .own a b, .own c d => a == c && b == d
  | .view a b c d, .view e f g h => a == e && b == f && c == g && d == h
  | .fn f a b, .fn g c d => f == g && eqDs a c && eqDs b d
  | .mp a, .mp b => a == b
  | .dead, .dead => true
  | _, _ => false
def eqDs : List D → List D → Bool
  | [], [] => true
  | a :: l, b :: r => eqD a b && eqDs l r
  | _, _ => false
end

mutual
theorem eqD_eq : ∀ {a b : D}, eqD a b = true → a = b
  | .v a, b, h => by cases b <;> simp only [eqD, Bool.false_eq_true] at h; rw [eqV_eq h]
  | .agg a, b, h => by cases b <;> simp only [eqD, Bool.false_eq_true] at h; rw [eqDs_eq h]
  | .tup a, b, h => by cases b <;> simp only [eqD, Bool.false_eq_true] at h; rw [eqDs_eq h]
  | .sl S a, b, h => by cases b <;> simp only [eqD, Bool.false_eq_true, Bool.and_eq_true, beq_iff_eq] at h; rw [h.1, eqDs_eq h.2]
  | .pt a, b, h => by cases b <;> simp only [eqD, Bool.false_eq_true] at h; rw [eqD_eq h]
  | .ref .., b, h => by cases b <;> simp [eqD] at h; simp [h]
  | .own .., b, h => by cases b <;> simp [eqD] at h; simp [h]
  | .view .., b, h => by cases b <;> simp [eqD] at h; simp [h]
  | .fn f x y, b, h => by cases b <;> simp only [eqD, Bool.false_eq_true, Bool.and_eq_true, beq_iff_eq] at h; rw [h.1.1, eqDs_eq h.1.2, eqDs_eq h.2]
  | .mp .., b, h => by cases b <;> simp [eqD] at h; simp [h]
  | .dead, b, h => by cases b <;> simp [eqD] at h; rfl
theorem eqDs_eq : ∀ {a b : List D}, eqDs a b = true → a = b
  | [], b, h => by cases b <;> simp [eqDs] at h; rfl
  | a :: l, b, h => by
    cases b <;> simp only [eqDs, Bool.false_eq_true, Bool.and_eq_true] at h
    rw [eqD_eq h.1, eqDs_eq h.2]
end

def eqKs : List (Value × D) → List (Value × D) → Bool
  | [], [] => true
  | (a, d) :: l, (b, e) :: r => eqV a b && eqD d e && eqKs l r
  | _, _ => false

theorem eqKs_eq : ∀ {a b : List (Value × D)}, eqKs a b = true → a = b
  | [], b, h => by cases b <;> simp [eqKs] at h; rfl
  | (a, d) :: l, b, h => by
    cases b with
    | nil => simp [eqKs] at h
    | cons p r =>
      obtain ⟨b, e⟩ := p
      simp only [eqKs, Bool.and_eq_true] at h
      rw [eqV_eq h.1.1, eqD_eq h.1.2, eqKs_eq h.2]

def eqEnt : Ent → Ent → Bool
  | .live a b l, .live c d r => a == c && b == d && eqDs l r
  | .mp a, .mp b => eqKs a b
  | .gone, .gone => true
  | _, _ => false

theorem eqEnt_eq {a b : Ent} (h : eqEnt a b = true) : a = b := by
  cases a <;> cases b <;> simp only [eqEnt, Bool.false_eq_true, Bool.and_eq_true, beq_iff_eq] at h
  · rw [h.1.1, h.1.2, eqDs_eq h.2]
  · rw [eqKs_eq h]
  · rfl

def eqEnts : List Ent → List Ent → Bool
  | [], [] => true
  | a :: l, b :: r => eqEnt a b && eqEnts l r
  | _, _ => false

theorem eqEnts_eq : ∀ {a b : List Ent}, eqEnts a b = true → a = b
  | [], b, h => by cases b <;> simp [eqEnts] at h; rfl
  | a :: l, b, h => by
    cases b <;> simp only [eqEnts, Bool.false_eq_true, Bool.and_eq_true] at h
    rw [eqEnt_eq h.1, eqEnts_eq h.2]

def eqSt (s t : St) : Bool := eqDs s.t t.t && eqEnts s.m t.m

theorem eqSt_eq {s t : St} (h : eqSt s t = true) : s = t := by
  simp only [eqSt, Bool.and_eq_true] at h
  have h1 := eqDs_eq h.1
  have h2 := eqEnts_eq h.2
  cases s; cases t
  simp only at h1 h2
  rw [h1, h2]

/-- What is carried out: code, a region's operations, one whose order is open, a call, a call that knows no resources. -/
inductive W where
  | c (c : C)
  | l (l : List RI)
  | dl (q : Nat) (l : List RI)
  | any (bs : List (List Nat)) (rl : List RI) (q k : Nat) (L : List Bool)
  | seg (ps : List Nat) (lo : Nat) (bs : List (List Nat)) (rl : List RI)
  | f (k : Nat) (ds : List D)
  | p (k : Nat) (ds : List D)

def stepOp (s : St) (dst : Option Tmp) (g : Option (Tmp × Bool)) (i : I) : Option St :=
  match gate s g with
  | none => none
  | some none =>
    match evalI s i with
    | some (d, m') => some ({ s with m := m' }.put dst d)
    | none => none
  | some (some (c, b)) =>
    if c = b then
      match evalI s i with
      | some (d, m') => some ({ s with m := m' }.put dst d)
      | none => none
    else some (s.put dst (.v undef))

def gateOn (s : St) (g : Option (Tmp × Bool)) : Option Bool :=
  match gate s g with
  | none => none
  | some none => some true
  | some (some (c, b)) => some (c == b)

/-- A function's end. -/
def ended (F : Fun) : Option (Exit × St) → Option (D × List Ent)
  | some (.normal, s) | some (.ret, s) =>
    match ressD s F.results with
    | some es => some (tupD es, s.m)
    | none => none
  | _ => none

def run (FT : Nat → Option (Fun × Nat)) : Nat → W → St → Option (Exit × St)
  | 0, _, _ => none
  | _ + 1, .c .skip, s => some (.normal, s)
  | n + 1, .c (.reg l), s => run FT n (.l l) s
  | n + 1, .c (.draw q l), s => run FT n (.dl q l) s
  | n + 1, .c (.any cuts q bs l), s => if sorted (cuts ++ [q]) = true then run FT n (.seg (cuts ++ [q]) 0 bs l) s else none
  | n + 1, .c (.seq a b), s =>
    match run FT n (.c a) s with
    | some (.normal, s') => run FT n (.c b) s'
    | r => r
  | n + 1, .c (.cond c a b), s =>
    match s.ev c with
    | .v (.bool true) => run FT n (.c a) s
    | .v (.bool false) => run FT n (.c b) s
    | _ => none
  | n + 1, .c (.block id a), s =>
    match run FT n (.c a) s with
    | some (.exit j, s') => if j = id then some (.normal, s') else some (.exit j, s')
    | r => r
  | n + 1, .c (.loop a), s =>
    match run FT n (.c a) s with
    | some (.normal, s') => run FT n (.c (.loop a)) s'
    | r => r
  | _ + 1, .c (.exit id), s => some (.exit id, s)
  | _ + 1, .c .ret, s => some (.ret, s)
  | _ + 1, .l [], s => some (.normal, s)
  | n + 1, .l (.op dst g i :: l), s =>
    match stepOp s dst g i with
    | some s' => run FT n (.l l) s'
    | none => none
  | n + 1, .l (.call dst g f args :: l), s =>
    match s.ev f with
    | .fn k first caps =>
      match gateOn s g with
      | some true =>
        match run FT n (.f k (first ++ args.map s.ev ++ caps)) s with
        | some (_, ⟨[d], m'⟩) => run FT n (.l l) ({ s with m := m' }.put dst d)
        | _ => none
      | some false => run FT n (.l l) (s.put dst (.v undef))
      | none => none
    | _ => none
  | n + 1, .dl 0 l, s => run FT n (.l l) s
  | _ + 1, .dl (_ + 1) [], _ => none
  | n + 1, .dl (q + 1) (.op dst g i :: l), s =>
    match stepOp s dst g i with
    | some s' => run FT n (.dl q l) s'
    | none => none
  | n + 1, .dl (q + 1) (.call dst g f args :: l), s =>
    match s.ev f with
    | .fn k first caps =>
      match gateOn s g with
      | some true =>
        match run FT n (.p k (first ++ args.map s.ev ++ caps)) s with
        | some (_, ⟨[d], _⟩) => run FT n (.dl q l) (s.put dst d)
        | _ => none
      | some false => run FT n (.dl q l) (s.put dst (.v undef))
      | none => none
    | _ => none
  | _ + 1, .any _ _ _ 0 _, _ => none
  | n + 1, .any bs rl q (k + 1) L, s =>
    match readyL bs q L with
    | [] => some (.normal, s)
    | i :: is =>
      match run FT n (.l (rl[i]?).toList) s with
      | some (_, s1) =>
        match run FT n (.any bs rl q k (L.set i true)) s1 with
        | some (_, sf) =>
          if (is.all fun j =>
            match run FT n (.l (rl[j]?).toList) s with
            | some (_, s1) =>
              match run FT n (.any bs rl q k (L.set j true)) s1 with
              | some (_, s') => eqSt s' sf
              | none => false
            | none => false) = true then some (.normal, sf) else none
        | none => none
      | none => none
  | n + 1, .seg [] lo _ l, s => run FT n (.l (l.drop lo)) s
  | n + 1, .seg (p :: ps) lo bs l, s =>
    match run FT n (.any bs l p (p + 1) (List.replicate lo true ++ List.replicate (p - lo) false)) s with
    | some (_, s') => run FT n (.seg ps p bs l) s'
    | none => none
  | n + 1, .f k ds, s =>
    match FT k with
    | some (F, 0) =>
      match ended F (run FT n (.c F.code) ⟨ds ++ List.replicate (F.ntmps - ds.length) .dead, s.m⟩) with
      | some (d, m') => some (.normal, ⟨[d], m'⟩)
      | none => none
    | some (_, 1) =>
      match run FT n (.p k ds) s with
      | some (_, ⟨[d], _⟩) => some (.normal, ⟨[d], s.m⟩)
      | _ => none
    | some (F, _) =>
      match ended F (run FT n (.c F.code) ⟨ds.map (froz 8 s.m) ++ List.replicate (F.ntmps - ds.length) .dead, []⟩) with
      | some (d, _) => if flat d = true then some (.normal, ⟨[d], s.m⟩) else none
      | none => none
    | none => none
  | n + 1, .p k ds, _ =>
    match FT k with
    | some (F, _) =>
      if idfrees ds = true then
        match ended F (run FT n (.c F.code) ⟨ds ++ List.replicate (F.ntmps - ds.length) .dead, []⟩) with
        | some (d, m') => some (.normal, ⟨[froz 8 m' d], []⟩)
        | none => none
      else none
    | none => none

section
variable {P : Program} {FT : Nat → Option (Fun × Nat)}

theorem regT_step {dst : Option Tmp} {g : Option (Tmp × Bool)} {i : I} {l : List RI} {K : St → Prop} {s s' : St} (h : stepOp s dst g i = some s') (hK : RegT P l K s') : RegT P (.op dst g i :: l) K s := by
  unfold stepOp at h
  simp only [RegT]
  split at h
  · cases h
  · rename_i hg
    rw [hg]
    split at h
    · rename_i d m' he
      injection h with h; subst h
      exact ⟨d, m', he, hK⟩
    · cases h
  · rename_i c b hg
    rw [hg]
    split at h
    · rename_i hcb
      split at h
      · rename_i d m' he
        injection h with h; subst h
        exact ⟨fun _ => ⟨d, m', he, hK⟩, fun hne => (hne hcb).elim⟩
      · cases h
    · rename_i hcb
      injection h with h; subst h
      exact ⟨fun e => (hcb e).elim, fun _ => hK⟩

theorem drT_step {dst : Option Tmp} {g : Option (Tmp × Bool)} {i : I} {q : Nat} {l : List RI} {K : St → Prop} {s s' : St} (h : stepOp s dst g i = some s') (hK : DrT P q l K s') : DrT P (q + 1) (.op dst g i :: l) K s := by
  unfold stepOp at h
  simp only [DrT]
  split at h
  · cases h
  · rename_i hg
    rw [hg]
    split at h
    · rename_i d m' he
      injection h with h; subst h
      exact ⟨d, m', he, hK⟩
    · cases h
  · rename_i c b hg
    rw [hg]
    split at h
    · rename_i hcb
      split at h
      · rename_i d m' he
        injection h with h; subst h
        exact ⟨fun _ => ⟨d, m', he, hK⟩, fun hne => (hne hcb).elim⟩
      · cases h
    · rename_i hcb
      injection h with h; subst h
      exact ⟨fun e => (hcb e).elim, fun _ => hK⟩

/-- What a run that succeeds says. -/
def Say (P : Program) (FT : Nat → Option (Fun × Nat)) (e : Exit) (s' : St) : W → St → Prop
  | .c c, s => ∀ N, T P N c (fun e' s'' => e' = e ∧ s'' = s') s
  | .l l, s => e = .normal ∧ RegT P l (fun s'' => s'' = s') s
  | .dl q l, s => e = .normal ∧ DrT P q l (fun s'' => s'' = s') s
  | .any bs rl q k L, s => e = .normal ∧ AnyQ P bs rl q (fun s'' => s'' = s') k L s
  | .seg ps lo bs rl, s => e = .normal ∧ AnyC P bs rl (fun s'' => s'' = s') ps lo s
  | .f k ds, s => ∀ d, s'.t = [d] → CallT P k ds s.m fun d' m' => d' = d ∧ m' = s'.m
  | .p k ds, _ => ∀ d, s'.t = [d] → ∀ m, CallT P k ds m fun d' m' => d' = d ∧ m' = m

theorem ended_end {F : Fun} {r : Option (Exit × St)} {d : D} {m' : List Ent} (h : ended F r = some (d, m')) : ∃ e s, r = some (e, s) ∧ ∀ (R : D → List Ent → Prop), R d m' → EndT F.results R e s := by
  unfold ended at h
  split at h
  · rename_i s
    split at h
    · rename_i es hes
      injection h with h
      injection h with h1 h2
      subst h1; subst h2
      exact ⟨_, s, rfl, fun R hR => ⟨es, hes, hR⟩⟩
    · cases h
  · rename_i s
    split at h
    · rename_i es hes
      injection h with h
      injection h with h1 h2
      subst h1; subst h2
      exact ⟨_, s, rfl, fun R hR => ⟨es, hes, hR⟩⟩
    · cases h
  · cases h

theorem call_ended (hFT : ∀ k F md, FT k = some (F, md) → compF P k = some F ∧ ((P.funcs[k]?).map fun fn => fn.name == "runtime.NumGoroutine") = some false) {n : Nat}
    (ih : ∀ w s e s', run FT n w s = some (e, s') → Say P FT e s' w s) {k : Nat} {F : Fun} {md : Nat} (hk : FT k = some (F, md)) {ds : List D} {m : List Ent} {d : D} {m' : List Ent}
    (h : ended F (run FT n (.c F.code) ⟨ds ++ List.replicate (F.ntmps - ds.length) .dead, m⟩) = some (d, m')) : CallT P k ds m fun d' m'' => d' = d ∧ m'' = m' := by
  obtain ⟨e, s, hr, hE⟩ := ended_end h
  obtain ⟨h1, h2⟩ := hFT k F md hk
  have := ih _ _ _ _ hr
  simp only [Say] at this
  refine callT_of h1 h2 ((this m.length).mono ?_)
  rintro e' s'' ⟨rfl, rfl⟩
  exact hE _ ⟨rfl, rfl⟩

/-- **A run that succeeds is a proof.** -/
theorem run_sound (hmix : P.follows .mixedOrders = true) (hFT : ∀ k F md, FT k = some (F, md) → compF P k = some F ∧ ((P.funcs[k]?).map fun fn => fn.name == "runtime.NumGoroutine") = some false) :
    ∀ (n : Nat) (w : W) (s : St) (e : Exit) (s' : St), run FT n w s = some (e, s') → Say P FT e s' w s := by
  intro n
  induction n using Nat.strongRecOn with
  | _ n ih =>
  cases n with
  | zero => intro w s e s' h; simp [run] at h
  | succ n =>
  have ihn := ih n (Nat.lt_succ_self n)
  intro w s e s' h
  cases w with
  | c c =>
    cases c with
    | skip =>
      simp only [run, Option.some.injEq, Prod.mk.injEq] at h
      obtain ⟨rfl, rfl⟩ := h
      exact fun N => T.skip ⟨rfl, rfl⟩
    | reg l =>
      simp only [run] at h
      obtain ⟨rfl, hr⟩ := ihn _ _ _ _ h
      exact fun N => T.reg (regT_mono (fun s'' hs => ⟨rfl, hs⟩) hr)
    | draw q l =>
      simp only [run] at h
      obtain ⟨rfl, hr⟩ := ihn _ _ _ _ h
      refine fun N => T.draw hmix ?_
      have : ∀ {q : Nat} {l : List RI} {s : St}, DrT P q l (fun s'' => s'' = s') s → DrT P q l (fun s'' => Exit.normal = Exit.normal ∧ s'' = s') s := by
        intro q l s h
        have he : (fun s'' => s'' = s') = (fun s'' => Exit.normal = Exit.normal ∧ s'' = s') := by funext x; simp
        rw [← he]; exact h
      exact this hr
    | any cuts q bs l =>
      simp only [run] at h
      split at h
      · rename_i hso
        obtain ⟨rfl, hA⟩ := ihn _ _ _ _ h
        exact fun N => T.any hmix hso (AnyC.mono (fun s'' hs => ⟨rfl, hs⟩) hA)
      · cases h
    | seq a b =>
      simp only [run] at h
      split at h
      · rename_i s1 h1
        have hb := ihn _ _ _ _ h
        have ha := ihn _ _ _ _ h1
        simp only [Say] at ha hb
        refine fun N => T.seq ((ha N).mono ?_)
        rintro e' s'' ⟨rfl, rfl⟩
        exact hb N
      · rename_i hne
        have ha := ihn _ _ _ _ h
        simp only [Say] at ha
        refine fun N => T.seq ((ha N).mono ?_)
        rintro e' s'' ⟨rfl, rfl⟩
        cases e' with
        | normal => exact (hne _ h).elim
        | _ => exact ⟨rfl, rfl⟩
    | cond c a b =>
      simp only [run] at h
      split at h
      · rename_i hc
        have ha := ihn _ _ _ _ h
        simp only [Say] at ha
        exact fun N => T.cond hc (fun _ => ha N) (fun e => by cases e)
      · rename_i hc
        have ha := ihn _ _ _ _ h
        simp only [Say] at ha
        exact fun N => T.cond hc (fun e => by cases e) (fun _ => ha N)
      · cases h
    | block id a =>
      simp only [run] at h
      split at h
      · rename_i j s1 h1
        have ha := ihn _ _ _ _ h1
        simp only [Say] at ha
        refine fun N => T.block ((ha N).mono ?_)
        rintro e' s'' ⟨rfl, rfl⟩
        simp only
        split at h <;> rename_i hj <;> simp only [Option.some.injEq, Prod.mk.injEq] at h <;> obtain ⟨rfl, rfl⟩ := h
        · rw [if_pos hj]; exact ⟨rfl, rfl⟩
        · rw [if_neg hj]; exact ⟨rfl, rfl⟩
      · rename_i hne
        have ha := ihn _ _ _ _ h
        simp only [Say] at ha
        refine fun N => T.block ((ha N).mono ?_)
        rintro e' s'' ⟨rfl, rfl⟩
        cases e' with
        | exit j => exact (hne _ _ h).elim
        | _ => exact ⟨rfl, rfl⟩
    | loop a =>
      intro N
      refine T.loopI (J := fun y s1 => y ≤ n + 1 ∧ run FT y (.c (.loop a)) s1 = some (e, s')) (fun y => y) (n + 1) ⟨Nat.le_refl _, h⟩ ?_
      rintro y s1 ⟨hy, hr⟩
      cases y with
      | zero => simp [run] at hr
      | succ y =>
        simp only [run] at hr
        have ihy := ih y (by omega)
        split at hr
        · rename_i s2 h2
          have ha := ihy _ _ _ _ h2
          simp only [Say] at ha
          refine (ha N).mono ?_
          rintro e' s'' ⟨rfl, rfl⟩
          exact ⟨y, ⟨by omega, hr⟩, by simp⟩
        · rename_i hne
          have ha := ihy _ _ _ _ hr
          simp only [Say] at ha
          refine (ha N).mono ?_
          rintro e' s'' ⟨rfl, rfl⟩
          cases e' with
          | normal => exact (hne _ hr).elim
          | _ => exact ⟨rfl, rfl⟩
    | exit id =>
      simp only [run, Option.some.injEq, Prod.mk.injEq] at h
      obtain ⟨rfl, rfl⟩ := h
      exact fun N => T.exit ⟨rfl, rfl⟩
    | ret =>
      simp only [run, Option.some.injEq, Prod.mk.injEq] at h
      obtain ⟨rfl, rfl⟩ := h
      exact fun N => T.ret ⟨rfl, rfl⟩
  | l l =>
    cases l with
    | nil =>
      simp only [run, Option.some.injEq, Prod.mk.injEq] at h
      obtain ⟨rfl, rfl⟩ := h
      exact ⟨rfl, rfl⟩
    | cons r l =>
      cases r with
      | op dst g i =>
        simp only [run] at h
        split at h
        · rename_i s1 h1
          obtain ⟨rfl, hr⟩ := ihn _ _ _ _ h
          exact ⟨rfl, regT_step h1 hr⟩
        · cases h
      | call dst g f args =>
        simp only [run] at h
        split at h
        · rename_i k first caps hf
          unfold gateOn at h
          simp only [Say, RegT, hf]
          split at h
          · rename_i hg
            split at hg
            · cases hg
            · rename_i hgt
              rw [hgt]
              split at h
              · rename_i d m' hc
                obtain ⟨rfl, hr⟩ := ihn _ _ _ _ h
                have := ihn _ _ _ _ hc
                simp only [Say] at this
                refine ⟨rfl, (this d rfl).mono ?_⟩
                rintro d' m'' ⟨rfl, rfl⟩
                exact hr
              · cases h
            · rename_i c b hgt
              rw [hgt]
              simp only [Option.some.injEq, beq_iff_eq] at hg
              split at h
              · rename_i d m' hc
                obtain ⟨rfl, hr⟩ := ihn _ _ _ _ h
                have := ihn _ _ _ _ hc
                simp only [Say] at this
                refine ⟨rfl, fun _ => (this d rfl).mono ?_, fun hne => (hne hg).elim⟩
                rintro d' m'' ⟨rfl, rfl⟩
                exact hr
              · cases h
          · rename_i hg
            split at hg
            · cases hg
            · cases hg
            · rename_i c b hgt
              rw [hgt]
              simp only [Option.some.injEq, beq_eq_false_iff_ne, ne_eq] at hg
              obtain ⟨rfl, hr⟩ := ihn _ _ _ _ h
              exact ⟨rfl, fun e => (hg e).elim, fun _ => hr⟩
          · cases h
        · cases h
  | dl q l =>
    cases q with
    | zero =>
      simp only [run] at h
      obtain ⟨rfl, hr⟩ := ihn _ _ _ _ h
      exact ⟨rfl, hr⟩
    | succ q =>
      cases l with
      | nil => simp [run] at h
      | cons r l =>
        cases r with
        | op dst g i =>
          simp only [run] at h
          split at h
          · rename_i s1 h1
            obtain ⟨rfl, hr⟩ := ihn _ _ _ _ h
            exact ⟨rfl, drT_step h1 hr⟩
          · cases h
        | call dst g f args =>
          simp only [run] at h
          split at h
          · rename_i k first caps hf
            unfold gateOn at h
            simp only [Say, DrT, hf]
            split at h
            · rename_i hg
              split at hg
              · cases hg
              · rename_i hgt
                rw [hgt]
                split at h
                · rename_i d m' hc
                  obtain ⟨rfl, hr⟩ := ihn _ _ _ _ h
                  have := ihn _ _ _ _ hc
                  simp only [Say] at this
                  exact ⟨rfl, d, this d rfl, hr⟩
                · cases h
              · rename_i c b hgt
                rw [hgt]
                simp only [Option.some.injEq, beq_iff_eq] at hg
                split at h
                · rename_i d m' hc
                  obtain ⟨rfl, hr⟩ := ihn _ _ _ _ h
                  have := ihn _ _ _ _ hc
                  simp only [Say] at this
                  exact ⟨rfl, fun _ => ⟨d, this d rfl, hr⟩, fun hne => (hne hg).elim⟩
                · cases h
            · rename_i hg
              split at hg
              · cases hg
              · cases hg
              · rename_i c b hgt
                rw [hgt]
                simp only [Option.some.injEq, beq_eq_false_iff_ne, ne_eq] at hg
                obtain ⟨rfl, hr⟩ := ihn _ _ _ _ h
                exact ⟨rfl, fun e => (hg e).elim, fun _ => hr⟩
            · cases h
          · cases h
  | any bs rl q k L =>
    cases k with
    | zero => simp [run] at h
    | succ k =>
      simp only [run] at h
      split at h
      · rename_i hno
        simp only [Option.some.injEq, Prod.mk.injEq] at h
        obtain ⟨rfl, rfl⟩ := h
        refine ⟨rfl, ?_⟩
        unfold AnyQ
        rw [hno]
        exact ⟨fun _ => rfl, fun i hi => by cases hi⟩
      · rename_i i is hrd
        split at h
        · rename_i e1 s1 h1
          split at h
          · rename_i e2 sf h2
            split at h
            · rename_i hall
              simp only [Option.some.injEq, Prod.mk.injEq] at h
              obtain ⟨rfl, rfl⟩ := h
              refine ⟨rfl, ?_⟩
              unfold AnyQ
              rw [hrd]
              refine ⟨fun h0 => (by cases h0), fun j hj => ?_⟩
              rcases List.mem_cons.1 hj with rfl | hj
              · obtain ⟨-, hr1⟩ := ihn _ _ _ _ h1
                obtain ⟨-, hr2⟩ := ihn _ _ _ _ h2
                exact regT_mono (fun s'' hs => by subst hs; exact hr2) hr1
              · have hj' := List.all_eq_true.1 hall j hj
                split at hj'
                · rename_i e3 s3 h3
                  split at hj'
                  · rename_i e4 s4 h4
                    have := eqSt_eq hj'
                    subst this
                    obtain ⟨-, hr1⟩ := ihn _ _ _ _ h3
                    obtain ⟨-, hr2⟩ := ihn _ _ _ _ h4
                    exact regT_mono (fun s'' hs => by subst hs; exact hr2) hr1
                  · cases hj'
                · cases hj'
            · cases h
          · cases h
        · cases h
  | seg ps lo bs rl =>
    cases ps with
    | nil =>
      simp only [run] at h
      obtain ⟨rfl, hr⟩ := ihn _ _ _ _ h
      exact ⟨rfl, hr⟩
    | cons p ps =>
      simp only [run] at h
      split at h
      · rename_i e1 s1 h1
        obtain ⟨-, hA⟩ := ihn _ _ _ _ h1
        obtain ⟨rfl, hr⟩ := ihn _ _ _ _ h
        exact ⟨rfl, hA.mono fun s2 hs2 => by subst hs2; exact hr⟩
      · cases h
  | f k ds =>
    simp only [run] at h
    split at h
    · rename_i F hk
      split at h
      · rename_i d m' hE
        simp only [Option.some.injEq, Prod.mk.injEq] at h
        obtain ⟨rfl, rfl⟩ := h
        intro d0 hd0
        simp only [List.cons.injEq, and_true] at hd0
        subst hd0
        exact call_ended hFT ihn hk hE
      · cases h
    · rename_i F hk
      split at h
      · rename_i e1 d m1 hp
        simp only [Option.some.injEq, Prod.mk.injEq] at h
        obtain ⟨rfl, rfl⟩ := h
        intro d0 hd0
        simp only [List.cons.injEq, and_true] at hd0
        subst hd0
        exact ihn _ _ _ _ hp d rfl s.m
      · cases h
    · rename_i F md _ _ hk
      split at h
      · rename_i d m' hE
        split at h
        · rename_i hfl
          simp only [Option.some.injEq, Prod.mk.injEq] at h
          obtain ⟨rfl, rfl⟩ := h
          intro d0 hd0
          simp only [List.cons.injEq, and_true] at hd0
          subst hd0
          have hc : CallT P k (ds.map (froz 8 s.m)) [] fun d' m'' => d' = d ∧ m'' = m' := call_ended hFT ihn hk (by simpa using hE)
          refine (callB_of (R := fun d' => d' = d) 8 (hc.mono ?_))
          rintro d' m'' ⟨rfl, rfl⟩
          exact ⟨rfl, hfl⟩
        · cases h
      · cases h
    · cases h
  | p k ds =>
    simp only [run] at h
    split at h
    · rename_i F md hk
      split at h
      · rename_i hid
        split at h
        · rename_i d m' hE
          simp only [Option.some.injEq, Prod.mk.injEq] at h
          obtain ⟨rfl, rfl⟩ := h
          intro d0 hd0 m
          simp only [List.cons.injEq, and_true] at hd0
          subst hd0
          have hc := call_ended hFT ihn hk hE
          refine (callP_of (R := fun d' => d' = froz 8 m' d) 8 hid (hc.mono ?_) m).mono ?_
          · rintro d' m'' ⟨rfl, rfl⟩; rfl
          · rintro d' m'' ⟨⟨h1, -⟩, h2⟩; exact ⟨h1, h2⟩
        · cases h
      · cases h
    · cases h

/-- A program's functions, and how each is called. -/
def tabOf (L : List (Nat × Fun)) (md : Nat → Nat) (k : Nat) : Option (Fun × Nat) :=
  match L.lookup k with
  | some F => some (F, md k)
  | none => none

def TabOk (P : Program) (L : List (Nat × Fun)) : Prop := ∀ p ∈ L, compF P p.1 = some p.2 ∧ ((P.funcs[p.1]?).map fun fn => fn.name == "runtime.NumGoroutine") = some false

theorem lookup_mem {k : Nat} {F : Fun} : ∀ {L : List (Nat × Fun)}, L.lookup k = some F → (k, F) ∈ L
  | [], h => by simp at h
  | (j, G) :: L, h => by
    rw [List.lookup_cons] at h
    split at h
    · rename_i hk
      injection h with h
      have := beq_iff_eq.1 hk
      subst this; subst h
      exact List.mem_cons_self
    · exact List.mem_cons_of_mem _ (lookup_mem h)

theorem tabOf_ok {L : List (Nat × Fun)} {md : Nat → Nat} (h : TabOk P L) : ∀ k F m, tabOf L md k = some (F, m) → compF P k = some F ∧ ((P.funcs[k]?).map fun fn => fn.name == "runtime.NumGoroutine") = some false := by
  intro k F m hk
  unfold tabOf at hk
  split at hk
  · rename_i G hG
    injection hk with hk
    injection hk with h1 h2
    subst h1
    exact h _ (lookup_mem hG)
  · cases hk

/-- A call, carried out. -/
theorem call_run (hmix : P.follows .mixedOrders = true) {L : List (Nat × Fun)} (hL : TabOk P L) (md : Nat → Nat) (n : Nat) {k : Nat} {ds : List D} {m m' : List Ent} {d : D}
    (h : (match run (tabOf L md) n (.f k ds) ⟨[], m⟩ with | some (_, s) => eqSt s ⟨[d], m'⟩ | none => false) = true) : CallT P k ds m fun d' m'' => d' = d ∧ m'' = m' := by
  split at h
  · rename_i e s hr
    have := eqSt_eq h
    subst this
    exact run_sound hmix (tabOf_ok hL) n _ _ _ _ hr d rfl
  · cases h

theorem call_runP (hmix : P.follows .mixedOrders = true) {L : List (Nat × Fun)} (hL : TabOk P L) (md : Nat → Nat) (n : Nat) {k : Nat} {ds : List D} {d : D}
    (h : (match run (tabOf L md) n (.p k ds) ⟨[], []⟩ with | some (_, s) => eqSt s ⟨[d], []⟩ | none => false) = true) (m : List Ent) : CallT P k ds m fun d' m'' => d' = d ∧ m'' = m := by
  split at h
  · rename_i e s hr
    have := eqSt_eq h
    subst this
    exact run_sound hmix (tabOf_ok hL) n _ _ _ _ hr d rfl m
  · cases h
end
end Go.Tm
