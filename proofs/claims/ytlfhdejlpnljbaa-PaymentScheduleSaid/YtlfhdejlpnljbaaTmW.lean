/-
  Code as one statement, loops left shut; loops that run a number of rounds.
-/
import Derived.Test.YtlfhdejlpnljbaaTmP
set_option linter.unusedSimpArgs false
set_option linter.unusedVariables false
namespace Go.Tm
variable {P : Program} {N : Nat}

/-- Two ways: p holds, or it doesn't. -/
def gP (p Y N : Prop) : Prop := (p → Y) ∧ (¬ p → N)
theorem gP_T {Y N : Prop} : gP True Y N = Y := by simp [gP]
theorem gP_F {Y N : Prop} : gP False Y N = N := by simp [gP]
@[congr] theorem gP_congr {p p' Y N : Prop} (h : p = p') : gP p Y N = gP p' Y N := by rw [h]
theorem gP.mk {p Y N : Prop} (h1 : p → Y) (h2 : ¬ p → N) : gP p Y N := ⟨h1, h2⟩
theorem gP_same {p Y : Prop} : gP p Y Y = Y := by by_cases h : p <;> simp [gP, h]

/-- The guard's slot holds b, as is known from here on. -/
def pin (s : St) (g : Option (Tmp × Bool)) (b : Bool) : St :=
  match g with
  | none => s
  | some (t, _) =>
    match s.t.getD t .dead with
    | .v (.bool _) => { s with t := s.t.set t (.v (.bool b)) }
    | _ => s

theorem set_getD {l : List D} {t : Nat} {d : D} (h : l.getD t .dead = d) (hd : d ≠ .dead) : l.set t d = l := by
  apply List.ext_getElem?
  intro j
  rw [List.getElem?_set]
  split
  · rename_i hj
    subst hj
    split
    · rename_i hlt
      rw [List.getD_eq_getElem?_getD, List.getElem?_eq_getElem hlt, Option.getD_some] at h
      rw [List.getElem?_eq_getElem hlt, h]
    · rename_i hlt
      rw [List.getD_eq_getElem?_getD, List.getElem?_eq_none (by omega)] at h
      exact absurd h.symm hd
  · rfl

theorem pin_yes {s : St} {g : Option (Tmp × Bool)} {c b : Bool} (hg : gate s g = some (some (c, b))) (e : c = b) : pin s g b = s := by
  unfold pin
  cases g with
  | none => rfl
  | some p =>
    obtain ⟨t, b'⟩ := p
    simp only
    split
    · rename_i x hx
      simp only [gate, hx] at hg
      injection hg with hg; injection hg with hg; injection hg with h1 h2
      subst h1 h2
      subst e
      rw [set_getD hx (by simp)]
    · rfl

theorem pin_no {s : St} {g : Option (Tmp × Bool)} {c b : Bool} (hg : gate s g = some (some (c, b))) (e : c ≠ b) : pin s g (!b) = s := by
  unfold pin
  cases g with
  | none => rfl
  | some p =>
    obtain ⟨t, b'⟩ := p
    simp only
    split
    · rename_i x hx
      simp only [gate, hx] at hg
      injection hg with hg; injection hg with hg; injection hg with h1 h2
      subst h1 h2
      have : x = !b' := by cases x <;> cases b' <;> simp_all
      subst this
      rw [set_getD hx (by simp)]
    · rfl

/-- What comes behind an operation. -/
def KO (R : St → Prop) (s : St) (dst : Option Tmp) (d : D) (m' : List Ent) : Prop := R ({ s with m := m' }.put dst d)
theorem KO_ap {R : St → Prop} {s : St} {dst : Option Tmp} {d : D} {m' : List Ent} : KO R s dst d m' = R ({ s with m := m' }.put dst d) := Eq.trans rfl rfl

/-- A region's operations, one after the other; a guard's slot is known behind the first look at it. -/
def RegZ (P : Program) : List RI → (St → Prop) → St → Prop
  | [], K, s => K s
  | .op dst g i :: l, K, s =>
    match gate s g with
    | none => False
    | some none => andT (evalI s i) (KO (RegZ P l K) s dst)
    | some (some (c, b)) => gP (c = b) (andT (evalI (pin s g b) i) (KO (RegZ P l K) (pin s g b) dst)) (RegZ P l K ((pin s g (!b)).put dst (.v undef)))
  | .call dst g f args :: l, K, s =>
    match s.ev f with
    | .fn k first caps =>
      match gate s g with
      | none => False
      | some none => callX P k (first ++ args.map s.ev ++ caps) s.m (KO (RegZ P l K) s dst)
      | some (some (c, b)) => gP (c = b) (callX P k (first ++ args.map (pin s g b).ev ++ caps) s.m (KO (RegZ P l K) (pin s g b) dst)) (RegZ P l K ((pin s g (!b)).put dst (.v undef)))
    | _ => False

theorem regZ_T : ∀ {l : List RI} {K : St → Prop} {s : St}, RegZ P l K s → RegT P l K s
  | [], K, s, h => h
  | .op dst g i :: l, K, s, h => by
    simp only [RegZ] at h
    simp only [RegT]
    split at h
    · exact h.elim
    · rename_i hg
      rw [hg]
      obtain ⟨d, m', h1, h2⟩ := (andT_iff _ _).1 h
      exact ⟨d, m', h1, regZ_T h2⟩
    · rename_i c b hg
      rw [hg]
      refine ⟨fun e => ?_, fun e => ?_⟩
      · have h := h.1 e
        rw [pin_yes hg e] at h
        obtain ⟨d, m', h1, h2⟩ := (andT_iff _ _).1 h
        exact ⟨d, m', h1, regZ_T h2⟩
      · have h := h.2 e
        rw [pin_no hg e] at h
        exact regZ_T h
  | .call dst g f args :: l, K, s, h => by
    simp only [RegZ] at h
    simp only [RegT]
    split at h
    · rename_i k first caps hf
      rw [hf]
      split at h
      · exact h.elim
      · rename_i hg
        rw [hg]
        exact h.mono fun _ _ h2 => regZ_T h2
      · rename_i c b hg
        rw [hg]
        refine ⟨fun e => ?_, fun e => ?_⟩
        · have h := h.1 e
          rw [pin_yes hg e] at h
          exact h.mono fun _ _ h2 => regZ_T h2
        · have h := h.2 e
          rw [pin_no hg e] at h
          exact regZ_T h
    · exact h.elim

/-- The first operations of a region whose order is open. -/
def DrX (P : Program) : Nat → List RI → (St → Prop) → St → Prop
  | 0, l, K, s => RegZ P l K s
  | _ + 1, [], _, _ => False
  | q + 1, .op dst g i :: l, K, s =>
    match gate s g with
    | none => False
    | some none => andT (evalI s i) (KO (DrX P q l K) s dst)
    | some (some (c, b)) => gP (c = b) (andT (evalI s i) (KO (DrX P q l K) s dst)) (DrX P q l K (s.put dst (.v undef)))
  | q + 1, .call dst g f args :: l, K, s =>
    match s.ev f with
    | .fn k first caps =>
      match gate s g with
      | none => False
      | some none => ∃ d, (∀ m, CallT P k (first ++ args.map s.ev ++ caps) m fun d' m' => d' = d ∧ m' = m) ∧ DrX P q l K (s.put dst d)
      | some (some (c, b)) => (c = b → ∃ d, (∀ m, CallT P k (first ++ args.map s.ev ++ caps) m fun d' m' => d' = d ∧ m' = m) ∧ DrX P q l K (s.put dst d)) ∧ (c ≠ b → DrX P q l K (s.put dst (.v undef)))
    | _ => False

theorem drX_T : ∀ {q : Nat} {l : List RI} {K : St → Prop} {s : St}, DrX P q l K s → DrT P q l K s
  | 0, l, K, s, h => by simp only [DrX] at h; simp only [DrT]; exact regZ_T h
  | _ + 1, [], K, s, h => by simp only [DrX] at h
  | q + 1, .op dst g i :: l, K, s, h => by
    simp only [DrX] at h
    simp only [DrT]
    split at h
    · exact h.elim
    · rename_i hg
      rw [hg]
      obtain ⟨d, m', h1, h2⟩ := (andT_iff _ _).1 h
      exact ⟨d, m', h1, drX_T h2⟩
    · rename_i c b hg
      rw [hg]
      refine ⟨fun e => ?_, fun e => drX_T (h.2 e)⟩
      obtain ⟨d, m', h1, h2⟩ := (andT_iff _ _).1 (h.1 e)
      exact ⟨d, m', h1, drX_T h2⟩
  | q + 1, .call dst g f args :: l, K, s, h => by
    simp only [DrX] at h
    simp only [DrT]
    split at h
    · rename_i k first caps hf
      rw [hf]
      split at h
      · exact h.elim
      · rename_i hg
        rw [hg]
        obtain ⟨d, h1, h2⟩ := h
        exact ⟨d, h1, drX_T h2⟩
      · rename_i c b hg
        rw [hg]
        refine ⟨fun e => ?_, fun e => drX_T (h.2 e)⟩
        obtain ⟨d, h1, h2⟩ := h.1 e
        exact ⟨d, h1, drX_T h2⟩
    · exact h.elim

/-- Is there a loop, or a region that is tried in all orders, in the code. -/
def C.lps : C → Bool
  | .loop _ => true
  | .any .. => true
  | .seq a b => a.lps || b.lps
  | .cond _ a b => a.lps || b.lps
  | .block _ a => a.lps
  | _ => false

def C.isLoop : C → Bool
  | .loop _ => true
  | _ => false

/-- Arguments may be told with less. -/
theorem callT_sub {f : FuncId} {ds ds' : List D} {m : List Ent} {R : D → List Ent → Prop} (hs : Subs ds ds') (h : CallT P f ds' m R) : CallT P f ds m R :=
  ⟨h.1, fun G w vs hv hi => h.2 G w vs (hs.rel hv) hi⟩

mutual
/-- A nil slice within is list number n, empty. -/
def Ad (n : Nat) : D → D → Prop
  | .v x, .own i v => x = .slice none 0 0 ∧ i = n ∧ v = 0
  | .agg l, .agg r => Ads n l r
  | d, e => d = e
def Ads (n : Nat) : List D → List D → Prop
  | [], r => r = []
  | d :: l, r => ∃ e r', r = e :: r' ∧ Ad n d e ∧ Ads n l r'
end

theorem Ad.inv {n : Nat} {d e : D} (h : Ad n d e) : (d = .v (.slice none 0 0) ∧ e = .own n 0) ∨ (∃ l r, d = .agg l ∧ e = .agg r ∧ Ads n l r) ∨ d = e := by
  cases d <;> cases e <;> simp_all [Ad]

mutual
theorem Ad.rel {G : Gh} {w : World} {n : Nat} (ho : VRel G w (.own n 0) (.slice none 0 0)) : ∀ {d e : D} {u : Value}, Ad n d e → VRel G w d u → VRel G w e u
  | .agg l, e, u, hs, h => by
    rcases hs.inv with ⟨h1, _⟩ | ⟨l', r, h1, rfl, h3⟩ | rfl
    · cases h1
    · injection h1 with h1; subst h1
      simp only [VRel] at h ⊢
      obtain ⟨cs, rfl, h, h1⟩ := h
      exact ⟨cs, rfl, Ads.rel ho h3 h, h1⟩
    · exact h
  | .v x, e, u, hs, h => by
    rcases hs.inv with ⟨h1, rfl⟩ | ⟨_, _, h1, _⟩ | rfl
    · injection h1 with h1; subst h1
      simp only [VRel] at h; subst h; exact ho
    · cases h1
    · exact h
  | .tup l, e, u, hs, h => by rcases hs.inv with ⟨h1, _⟩ | ⟨_, _, h1, _⟩ | rfl <;> first | cases h1 | exact h
  | .sl S l, e, u, hs, h => by rcases hs.inv with ⟨h1, _⟩ | ⟨_, _, h1, _⟩ | rfl <;> first | cases h1 | exact h
  | .pt x, e, u, hs, h => by rcases hs.inv with ⟨h1, _⟩ | ⟨_, _, h1, _⟩ | rfl <;> first | cases h1 | exact h
  | .ref _ _ _ _, e, u, hs, h => by rcases hs.inv with ⟨h1, _⟩ | ⟨_, _, h1, _⟩ | rfl <;> first | cases h1 | exact h
  | .own _ _, e, u, hs, h => by rcases hs.inv with ⟨h1, _⟩ | ⟨_, _, h1, _⟩ | rfl <;> first | cases h1 | exact h
  | .view _ _ _ _, e, u, hs, h => by rcases hs.inv with ⟨h1, _⟩ | ⟨_, _, h1, _⟩ | rfl <;> first | cases h1 | exact h
  | .fn _ _ _, e, u, hs, h => by rcases hs.inv with ⟨h1, _⟩ | ⟨_, _, h1, _⟩ | rfl <;> first | cases h1 | exact h
  | .mp _, e, u, hs, h => by rcases hs.inv with ⟨h1, _⟩ | ⟨_, _, h1, _⟩ | rfl <;> first | cases h1 | exact h
  | .dead, e, u, hs, h => by rcases hs.inv with ⟨h1, _⟩ | ⟨_, _, h1, _⟩ | rfl <;> first | cases h1 | exact h
theorem Ads.rel {G : Gh} {w : World} {n : Nat} (ho : VRel G w (.own n 0) (.slice none 0 0)) : ∀ {l r : List D} {us : List Value}, Ads n l r → VsRel G w l us → VsRel G w r us
  | [], r, us, hs, h => by simp only [Ads] at hs; subst hs; exact h
  | d :: l, r, us, hs, h => by
    simp only [Ads] at hs
    obtain ⟨e, r', rfl, h1, h2⟩ := hs
    simp only [VsRel] at h ⊢
    obtain ⟨u, us', rfl, g1, g2⟩ := h
    exact ⟨u, us', rfl, Ad.rel ho h1 g1, Ads.rel ho h2 g2⟩
end

theorem Ads.row {G : Gh} {w : World} {n b S : Nat} (ho : VRel G w (.own n 0) (.slice none 0 0)) : ∀ {l r : List D} {off : Nat}, Ads n l r → RowAt G w b S l off → RowAt G w b S r off
  | [], r, off, hs, h => by simp only [Ads] at hs; subst hs; exact h
  | d :: l, r, off, hs, h => by
    simp only [Ads] at hs
    obtain ⟨e, r', rfl, h1, h2⟩ := hs
    simp only [RowAt] at h ⊢
    obtain ⟨⟨u, g1, g2, g3⟩, g4⟩ := h
    exact ⟨⟨u, Ad.rel ho h1 g1, g2, g3⟩, Ads.row ho h2 g4⟩

theorem Ads.length {n : Nat} : ∀ {l r : List D}, Ads n l r → l.length = r.length
  | [], r, h => by simp [Ads] at h; simp [h]
  | d :: l, r, h => by
    simp only [Ads] at h
    obtain ⟨e, r', rfl, _, h2⟩ := h
    simp [Ads.length h2]

mutual
theorem Ad.refl (n : Nat) : ∀ d : D, Ad n d d
  | .agg l => by simp only [Ad]; exact Ads.refl n l
  | .v x => by simp [Ad]
  | .tup l => by simp [Ad]
  | .sl S l => by simp [Ad]
  | .pt d => by simp [Ad]
  | .ref .. => by simp [Ad]
  | .own .. => by simp [Ad]
  | .view .. => by simp [Ad]
  | .fn .. => by simp [Ad]
  | .mp .. => by simp [Ad]
  | .dead => by simp [Ad]
theorem Ads.refl (n : Nat) : ∀ l : List D, Ads n l l
  | [] => by simp [Ads]
  | d :: l => by simp only [Ads]; exact ⟨d, l, rfl, Ad.refl n d, Ads.refl n l⟩
end
theorem Ads.cons {n : Nat} {d e : D} {l r : List D} (h1 : Ad n d e) (h2 : Ads n l r) : Ads n (d :: l) (e :: r) := by
  simp only [Ads]; exact ⟨e, r, rfl, h1, h2⟩
theorem Ad.nil (n : Nat) : Ad n (.v (.slice none 0 0)) (.own n 0) := by simp [Ad]
theorem Ad.agg {n : Nat} {l r : List D} (h : Ads n l r) : Ad n (.agg l) (.agg r) := by simp only [Ad]; exact h

def AdE (n : Nat) : Ent → Ent → Prop
  | .live S v l, .live S' v' l' => S = S' ∧ v = v' ∧ Ads n l l'
  | e, e' => e = e'
def AdM (n : Nat) : List Ent → List Ent → Prop
  | [], r => r = []
  | d :: l, r => ∃ e r', r = e :: r' ∧ AdE n d e ∧ AdM n l r'

theorem AdE.refl (n : Nat) (e : Ent) : AdE n e e := by cases e <;> simp [AdE, Ads.refl]
theorem AdM.refl (n : Nat) : ∀ m : List Ent, AdM n m m
  | [] => by simp [AdM]
  | d :: l => by simp only [AdM]; exact ⟨d, l, rfl, AdE.refl n d, AdM.refl n l⟩
theorem AdM.cons {n : Nat} {d e : Ent} {l r : List Ent} (h1 : AdE n d e) (h2 : AdM n l r) : AdM n (d :: l) (e :: r) := by
  simp only [AdM]; exact ⟨e, r, rfl, h1, h2⟩
theorem AdE.live {n S v : Nat} {l r : List D} (h : Ads n l r) : AdE n (.live S v l) (.live S v r) := by simp only [AdE]; exact ⟨trivial, trivial, h⟩

theorem AdM.get {n : Nat} : ∀ {m m' : List Ent}, AdM n m m' → m.length = m'.length ∧ ∀ (i : Nat) e, m'[i]? = some e → ∃ e0, m[i]? = some e0 ∧ AdE n e0 e
  | [], m', h => by simp [AdM] at h; subst h; simp
  | d :: m, m', h => by
    simp only [AdM] at h
    obtain ⟨e, r', rfl, h1, h2⟩ := h
    obtain ⟨k1, k2⟩ := AdM.get h2
    refine ⟨by simp [k1], fun i e' he => ?_⟩
    cases i with
    | zero => simp at he; subst he; exact ⟨d, rfl, h1⟩
    | succ i => simpa using k2 i e' (by simpa using he)

theorem AdM.append {n : Nat} : ∀ {m m' : List Ent} (x : List Ent), AdM n m m' → AdM n (m ++ x) (m' ++ x)
  | [], m', x, h => by simp [AdM] at h; subst h; exact AdM.refl n x
  | d :: m, m', x, h => by
    simp only [AdM] at h
    obtain ⟨e, r', rfl, h1, h2⟩ := h
    simp only [List.cons_append]
    exact AdM.cons h1 (AdM.append x h2)

theorem AdE.rel {G : Gh} {w : World} {n i : Nat} {e e' : Ent} (ho : VRel G w (.own n 0) (.slice none 0 0)) (h : AdE n e e') (hr : EntRel G w i e) : EntRel G w i e' := by
  cases e with
  | live S v l =>
    cases e' with
    | live S' v' l' =>
      simp only [AdE] at h
      obtain ⟨rfl, rfl, h⟩ := h
      obtain ⟨a1, a2, a3, a4, a5⟩ := hr
      rw [h.length] at a3 a4
      refine ⟨a1, a2, a3, a4, ?_⟩
      rcases a5 with a5 | ⟨b', cs, T, hb', hF, hblk, hsz, hrow⟩
      · exact .inl a5
      · exact .inr ⟨b', cs, T, hb', hF, hblk, hsz, Ads.row ho h hrow⟩
    | _ => simp [AdE] at h
  | _ => simp only [AdE] at h; subst h; exact hr

theorem AdE.isLive {n : Nat} {e e' : Ent} (h : AdE n e e') : e'.isLive = e.isLive := by
  cases e <;> cases e' <;> simp_all [AdE, Ent.isLive]

/-- Nil slices, wherever they stand, are one empty list of one's own. -/
theorem T.adoptM {c : C} {K : Exit → St → Prop} {s : St} (S : Nat) {t' : List D} {m' : List Ent} (ht : Ads s.m.length s.t t') (hm : AdM s.m.length s.m m') (h : Tm.T P N c K ⟨t', m' ++ [.live S 0 []]⟩) : Tm.T P N c K s := by
  refine T.ghost (fun G w a hN hr => ?_) h
  have hadd := add_good (w' := w) hr.inv none S 0 0 (.live S 0 []) rfl rfl rfl rfl (Nat.le_refl _) (fun _ _ => rfl) (fun k h => by cases h)
    ⟨by simp [Gh.add], by simp [Gh.add], by simp [Gh.add], by simp, .inl ⟨by simp [Gh.add], by simp [Gh.add]⟩⟩
  have ho := own_newB (s := s) (b := none) (S := S) (N := 0) (C := 0) (w' := w) hr.inv.n
  have hM := (AdM.append [.live S 0 []] hm).get
  have hi := hadd.1
  refine ⟨_, ⟨Ads.rel ho ht (hr.t.mono hadd.2.le), ⟨by rw [hi.n, hM.1], hi.F, fun i e he => ?_, fun i j e e' he he' hl hl' b hb hb' => ?_⟩, hr.defers⟩, ?_⟩
  · obtain ⟨e0, h0, h1⟩ := hM.2 i e he
    exact h1.rel ho (hi.ent i e0 h0)
  · obtain ⟨e0, h0, h1⟩ := hM.2 i e he
    obtain ⟨e0', h0', h1'⟩ := hM.2 j e' he'
    exact hi.apart i j e0 e0' h0 h0' (by rw [← h1.isLive]; exact hl) (by rw [← h1'.isLive]; exact hl') b hb hb'
  · refine { hadd.2.toN hN with newB := fun b hb ho' => hadd.2.newB b hb ?_ }
    obtain ⟨i, e, he, hl, hB⟩ := ho'
    obtain ⟨e0, h0, h1⟩ := hM.2 i e he
    exact ⟨i, e0, h0, by rw [← h1.isLive]; exact hl, hB⟩

/-- A nil slice among a call's arguments is an empty list of the caller's own. -/
theorem callT_adopt {f : FuncId} {ds : List D} {m : List Ent} {R : D → List Ent → Prop} (i S : Nat) (hi : ds[i]? = some (.v (.slice none 0 0))) (h : CallT P f (ds.set i (.own m.length 0)) (m ++ [.live S 0 []]) R) : CallT P f ds m R := by
  refine ⟨h.1, fun G w vs hv hinv => ?_⟩
  have hadd := add_good (w' := w) hinv none S 0 0 (.live S 0 []) rfl rfl rfl rfl (Nat.le_refl _) (fun _ _ => rfl) (fun k h => by cases h)
    ⟨by simp [Gh.add], by simp [Gh.add], by simp [Gh.add], by simp, .inl ⟨by simp [Gh.add], by simp [Gh.add]⟩⟩
  have hx := VsRel.get i hv
  rw [List.getD_eq_getElem?_getD, hi] at hx
  simp only [Option.getD_some, VRel] at hx
  have hset := VsRel.set (d := .own m.length 0) (x := .slice none 0 0) (own_newB (s := ⟨[], m⟩) (b := none) (S := S) (N := 0) (C := 0) (w' := w) hinv.n) i (hv.mono hadd.2.le)
  have hself : vs.set i (.slice none 0 0) = vs := by
    rw [← hx]
    apply List.ext_getElem?
    intro j
    rw [List.getElem?_set]
    split
    · rename_i hij
      subst hij
      split
      · rename_i hlt; simp [List.getElem?_eq_getElem hlt]
      · rename_i hlt; rw [List.getElem?_eq_none (by omega)]
    · rfl
  rw [hself] at hset
  refine (h.2 _ w vs hset hadd.1).mono ?_
  rintro e w' ⟨v, d, m', G', k1, k2, k3, k4, k5⟩
  exact ⟨v, d, m', G', k1, k2, k3, k4, hadd.2.trans k5⟩

mutual
theorem below_mono {j k : Nat} (h : j ≤ k) : ∀ d : D, below j d = true → below k d = true
  | .v _, _ => by simp [below]
  | .agg l, hb => by simp only [below] at hb ⊢; exact belows_mono h l hb
  | .tup l, hb => by simp only [below] at hb ⊢; exact belows_mono h l hb
  | .sl _ l, hb => by simp only [below] at hb ⊢; exact belows_mono h l hb
  | .pt d, hb => by simp only [below] at hb ⊢; exact below_mono h d hb
  | .ref .., hb => by simp only [below, decide_eq_true_eq] at hb ⊢; omega
  | .own .., hb => by simp only [below, decide_eq_true_eq] at hb ⊢; omega
  | .view .., hb => by simp only [below, decide_eq_true_eq] at hb ⊢; omega
  | .mp _, hb => by simp only [below, decide_eq_true_eq] at hb ⊢; omega
  | .fn _ a b, hb => by
    simp only [below, Bool.and_eq_true] at hb ⊢
    exact ⟨belows_mono h a hb.1, belows_mono h b hb.2⟩
  | .dead, _ => by simp [below]
theorem belows_mono {j k : Nat} (h : j ≤ k) : ∀ l : List D, belows j l = true → belows k l = true
  | [], _ => by simp [belows]
  | d :: l, hb => by
    simp only [belows, Bool.and_eq_true] at hb ⊢
    exact ⟨below_mono h d hb.1, belows_mono h l hb.2⟩
end

theorem all_below_mono {j k : Nat} (h : j ≤ k) {m : List Ent} (hb : m.all (Ent.below j) = true) : m.all (Ent.below k) = true := by
  rw [List.all_eq_true] at hb ⊢
  intro e he
  have := hb e he
  cases e with
  | live S v l => simp only [Ent.below] at this ⊢; exact belows_mono h l this
  | mp es =>
    simp only [Ent.below, List.all_eq_true] at this ⊢
    exact fun p hp => below_mono h _ (this p hp)
  | gone => simp [Ent.below]

/-- Behind a sequence's first part: the second, shut. -/
def KS (P : Program) (N : Nat) (b : C) (K : Exit → St → Prop) (e : Exit) (s' : St) : Prop := match e with | .normal => Tm.T P N b K s' | e => K e s'
theorem KS_normal {b : C} {K : Exit → St → Prop} {s : St} : KS P N b K .normal s = Tm.T P N b K s := Eq.trans rfl rfl
theorem KS_exit {b : C} {K : Exit → St → Prop} {s : St} {i : Nat} : KS P N b K (.exit i) s = K (.exit i) s := Eq.trans rfl rfl
theorem KS_ret {b : C} {K : Exit → St → Prop} {s : St} : KS P N b K .ret s = K .ret s := Eq.trans rfl rfl
/-- Behind a sequence's first part: the second. -/
def KZ (R : St → Prop) (K : Exit → St → Prop) (e : Exit) (s' : St) : Prop := match e with | .normal => R s' | e => K e s'
theorem KZ_normal {R : St → Prop} {K : Exit → St → Prop} {s : St} : KZ R K .normal s = R s := Eq.trans rfl rfl
theorem KZ_exit {R : St → Prop} {K : Exit → St → Prop} {s : St} {i : Nat} : KZ R K (.exit i) s = K (.exit i) s := Eq.trans rfl rfl
theorem KZ_ret {R : St → Prop} {K : Exit → St → Prop} {s : St} : KZ R K .ret s = K .ret s := Eq.trans rfl rfl
/-- Behind a block. -/
def KB (id : Nat) (K : Exit → St → Prop) (e : Exit) (s' : St) : Prop := match e with | .exit id' => if id' = id then K .normal s' else K (.exit id') s' | e => K e s'
theorem KB_normal {id : Nat} {K : Exit → St → Prop} {s : St} : KB id K .normal s = K .normal s := Eq.trans rfl rfl
theorem KB_exit {id : Nat} {K : Exit → St → Prop} {s : St} {i : Nat} : KB id K (.exit i) s = if i = id then K .normal s else K (.exit i) s := Eq.trans rfl rfl
theorem KB_ret {id : Nat} {K : Exit → St → Prop} {s : St} : KB id K .ret s = K .ret s := Eq.trans rfl rfl
@[congr] theorem T_congr {c : C} {K : Exit → St → Prop} {s s' : St} (h : s = s') : Tm.T P N c K s = Tm.T P N c K s' := by rw [h]

/-- What is left to show of code: up to the first loop; what comes behind a loop stays shut. -/
def Z (P : Program) (N : Nat) : C → (Exit → St → Prop) → St → Prop
  | .skip, K, s => K .normal s
  | .reg l, K, s => RegZ P l (K .normal) s
  | .draw q l, K, s => DrX P q l (K .normal) s
  | .any cuts q bs l, K, s => T P N (.any cuts q bs l) K s
  | .seq a b, K, s =>
    match a.lps with
    | true => Z P N a (KS P N b K) s
    | false => Z P N a (KZ (Z P N b K) K) s
  | .cond c a b, K, s =>
    match s.ev c with
    | .v (.bool t) => gP (t = true) (Z P N a K s) (Z P N b K s)
    | _ => False
  | .block id a, K, s =>
    match a.isLoop with
    | true => T P N (.block id a) K s
    | false => Z P N a (KB id K) s
  | .loop a, K, s => T P N (.loop a) K s
  | .exit id, K, s => K (.exit id) s
  | .ret, K, s => K .ret s

theorem Z.T (hm : P.follows .mixedOrders = true) : ∀ {c : C} {K : Exit → St → Prop} {s : St}, Z P N c K s → T P N c K s
  | .skip, K, s, h => T.skip h
  | .reg l, K, s, h => T.reg (regZ_T h)
  | .draw q l, K, s, h => T.draw hm (drX_T h)
  | .any cuts q bs l, K, s, h => h
  | .seq a b, K, s, h => by
    simp only [Z] at h
    split at h
    · refine T.seq ((Z.T hm h).mono ?_)
      intro e s' h'
      cases e <;> exact h'
    · refine T.seq ((Z.T hm h).mono ?_)
      intro e s' h'
      cases e with
      | normal => exact Z.T hm h'
      | _ => exact h'
  | .cond c a b, K, s, h => by
    simp only [Z] at h
    split at h
    · rename_i t ht
      exact T.cond ht (fun e => Z.T hm (h.1 e)) (fun e => Z.T hm (h.2 (by simp [e])))
    · exact h.elim
  | .block id a, K, s, h => by
    simp only [Z] at h
    split at h
    · exact h
    · exact T.block ((Z.T hm h).mono fun e s' h' => by cases e <;> exact h')
  | .loop a, K, s, h => h
  | .exit id, K, s, h => T.exit h
  | .ret, K, s, h => T.ret h

section
variable {l : List RI} {K : St → Prop} {s : St} {dst : Option Tmp} {i : I} {q : Nat} {f : Operand} {args : List Operand} {g : Tmp × Bool}
theorem RegZ_nil : RegZ P [] K s = K s := Eq.trans rfl rfl
theorem RegZ_op : RegZ P (.op dst none i :: l) K s = andT (evalI s i) (KO (RegZ P l K) s dst) := Eq.trans rfl rfl
theorem RegZ_opg : RegZ P (.op dst (some g) i :: l) K s =
    match gate s (some g) with
    | none => False
    | some none => andT (evalI s i) (KO (RegZ P l K) s dst)
    | some (some (c, b)) => gP (c = b) (andT (evalI (pin s (some g) b) i) (KO (RegZ P l K) (pin s (some g) b) dst)) (RegZ P l K ((pin s (some g) (!b)).put dst (.v undef))) := Eq.trans rfl rfl
theorem RegZ_call {k : FuncId} {first caps : List D} (hf : s.ev f = .fn k first caps) : RegZ P (.call dst none f args :: l) K s = callX P k (first ++ args.map s.ev ++ caps) s.m (KO (RegZ P l K) s dst) := by
  simp only [RegZ, hf, gate]
theorem RegZ_callF {k : FuncId} : RegZ P (.call dst none (.func k) args :: l) K s = callX P k (args.map s.ev) s.m (KO (RegZ P l K) s dst) := by
  rw [RegZ_call (k := k) (first := []) (caps := []) rfl, List.nil_append, List.append_nil]
theorem RegZ_callFg {k : FuncId} : RegZ P (.call dst (some g) (.func k) args :: l) K s =
    match gate s (some g) with
    | none => False
    | some none => callX P k (args.map s.ev) s.m (KO (RegZ P l K) s dst)
    | some (some (c, b)) => gP (c = b) (callX P k (args.map (pin s (some g) b).ev) s.m (KO (RegZ P l K) (pin s (some g) b) dst)) (RegZ P l K ((pin s (some g) (!b)).put dst (.v undef))) := by
  simp only [RegZ, St.ev, List.nil_append, List.append_nil]
theorem DrX_zero : DrX P 0 l K s = RegZ P l K s := by simp only [DrX]
theorem DrX_op : DrX P (q + 1) (.op dst none i :: l) K s = andT (evalI s i) (KO (DrX P q l K) s dst) := Eq.trans rfl rfl
theorem DrX_opg : DrX P (q + 1) (.op dst (some g) i :: l) K s =
    match gate s (some g) with
    | none => False
    | some none => andT (evalI s i) (KO (DrX P q l K) s dst)
    | some (some (c, b)) => gP (c = b) (andT (evalI s i) (KO (DrX P q l K) s dst)) (DrX P q l K (s.put dst (.v undef))) := Eq.trans rfl rfl
/-- A call in a region whose order is open. -/
def callQ (P : Program) (k : FuncId) (ds : List D) (R : St → Prop) (s : St) (dst : Option Tmp) : Prop := ∃ d, (∀ m, CallT P k ds m fun d' m' => d' = d ∧ m' = m) ∧ R (s.put dst d)
theorem callQ_eq {k : FuncId} {ds : List D} {R : St → Prop} {s : St} {dst : Option Tmp} {d : D} (h : ∀ m, CallT P k ds m fun d' m' => d' = d ∧ m' = m) (hR : R (s.put dst d)) : callQ P k ds R s dst := ⟨d, h, hR⟩
theorem DrX_callF {k : FuncId} : DrX P (q + 1) (.call dst none (.func k) args :: l) K s = callQ P k (args.map s.ev) (DrX P q l K) s dst := by
  simp only [DrX, St.ev, List.nil_append, List.append_nil, callQ, gate]
theorem DrX_callFg {k : FuncId} : DrX P (q + 1) (.call dst (some g) (.func k) args :: l) K s =
    match gate s (some g) with
    | none => False
    | some none => callQ P k (args.map s.ev) (DrX P q l K) s dst
    | some (some (c, b)) => gP (c = b) (callQ P k (args.map s.ev) (DrX P q l K) s dst) (DrX P q l K (s.put dst (.v undef))) := by
  simp only [DrX, St.ev, List.nil_append, List.append_nil, callQ, gP]
variable {K' : Exit → St → Prop} {a b : C} {c : Operand} {id : Nat} {cuts : List Nat} {bs : List (List Nat)}
theorem Z_skip : Z P N .skip K' s = K' .normal s := Eq.trans rfl rfl
theorem Z_reg : Z P N (.reg l) K' s = RegZ P l (K' .normal) s := Eq.trans rfl rfl
theorem Z_draw : Z P N (.draw q l) K' s = DrX P q l (K' .normal) s := Eq.trans rfl rfl
theorem Z_any : Z P N (.any cuts q bs l) K' s = Tm.T P N (.any cuts q bs l) K' s := Eq.trans rfl rfl
/-- Behind a sequence's first part, told once. -/
def KZb (P : Program) (N : Nat) (b : C) (K' : Exit → St → Prop) : Exit → St → Prop := KZ (Z P N b K') K'
theorem KZb_normal : KZb P N b K' .normal s = Z P N b K' s := Eq.trans rfl rfl
theorem KZb_exit : KZb P N b K' (.exit id) s = K' (.exit id) s := Eq.trans rfl rfl
theorem KZb_ret : KZb P N b K' .ret s = K' .ret s := Eq.trans rfl rfl
theorem Z_seq : Z P N (.seq a b) K' s = match a.lps with
    | true => Z P N a (KS P N b K') s
    | false => Z P N a (KZb P N b K') s := Eq.trans rfl rfl
theorem Z_cond : Z P N (.cond c a b) K' s = match s.ev c with
    | .v (.bool t) => gP (t = true) (Z P N a K' s) (Z P N b K' s)
    | _ => False := Eq.trans rfl rfl
theorem Z_block : Z P N (.block id a) K' s = match a.isLoop with
    | true => Tm.T P N (.block id a) K' s
    | false => Z P N a (KB id K') s := Eq.trans rfl rfl
theorem Z_loop : Z P N (.loop a) K' s = Tm.T P N (.loop a) K' s := Eq.trans rfl rfl
theorem Z_exit : Z P N (.exit id) K' s = K' (.exit id) s := Eq.trans rfl rfl
theorem Z_ret : Z P N .ret K' s = K' .ret s := Eq.trans rfl rfl
end

/-- The state reads as S, but for resources that come behind. -/
def At (s' S : St) : Prop := Subs s'.t S.t ∧ ∃ g, s'.m = S.m ++ g

theorem At.mk (t t' : List D) (m g : List Ent) (h : Subs t t') : At ⟨t, m ++ g⟩ ⟨t', m⟩ := ⟨h, g, rfl⟩
theorem At.same (t t' : List D) (m : List Ent) (h : Subs t t') : At ⟨t, m⟩ ⟨t', m⟩ := ⟨h, [], by simp⟩

theorem At.cut (n : Nat) {t t' : List D} {m m' : List Ent} (h1 : Subs t t') (h2 : m.take n = m') : At ⟨t, m⟩ ⟨t', m'⟩ := ⟨h1, m.drop n, by rw [← h2, List.take_append_drop]⟩

/-- Names and resources are in order. -/
def Fit (N : Nat) (s : St) : Prop := N ≤ s.m.length ∧ belows s.m.length s.t = true ∧ s.m.all (Ent.below s.m.length) = true

theorem Sub.inv {a b : D} (h : Sub a b) : b = .dead ∨ (∃ S, a = .v (.slice none 0 0) ∧ b = .sl S []) ∨ (∃ l r, a = .agg l ∧ b = .agg r ∧ Subs l r) ∨ (∃ l r, a = .tup l ∧ b = .tup r ∧ Subs l r) ∨ (∃ S l r, a = .sl S l ∧ b = .sl S r ∧ Subs l r) ∨ a = b := by
  cases b with
  | dead => exact .inl rfl
  | v x => cases a <;> simp_all [Sub]
  | agg r => cases a <;> simp_all [Sub]
  | tup r => cases a <;> simp_all [Sub]
  | sl S r =>
    cases a with
    | sl S' l => simp only [Sub] at h; obtain ⟨rfl, h⟩ := h; exact .inr (.inr (.inr (.inr (.inl ⟨_, _, _, rfl, rfl, h⟩))))
    | _ => simp_all [Sub]
  | pt x => cases a <;> simp_all [Sub]
  | ref _ _ _ _ => cases a <;> simp_all [Sub]
  | own _ _ => cases a <;> simp_all [Sub]
  | view _ _ _ _ => cases a <;> simp_all [Sub]
  | fn _ _ _ => cases a <;> simp_all [Sub]
  | mp _ => cases a <;> simp_all [Sub]

mutual
theorem Sub.trans : ∀ {a b c : D}, Sub a b → Sub b c → Sub a c
  | a, .dead, c, h1, h2 => by
    rcases h2.inv with rfl | ⟨_, h, _⟩ | ⟨_, _, h, _⟩ | ⟨_, _, h, _⟩ | ⟨_, _, _, h, _⟩ | rfl
    · exact Sub.toDead _
    · cases h
    · cases h
    · cases h
    · cases h
    · exact Sub.toDead _
  | a, .agg r, c, h1, h2 => by
    rcases h1.inv with h | ⟨_, _, h⟩ | ⟨l, r', rfl, h, hs⟩ | ⟨_, _, _, h, _⟩ | ⟨_, _, _, _, h, _⟩ | rfl
    · cases h
    · cases h
    · injection h with h; subst h
      rcases h2.inv with rfl | ⟨_, h, _⟩ | ⟨r', q, h, rfl, hs'⟩ | ⟨_, _, h, _⟩ | ⟨_, _, _, h, _⟩ | rfl
      · exact Sub.toDead _
      · cases h
      · injection h with h; subst h
        simp only [Sub]; exact Subs.trans hs hs'
      · cases h
      · cases h
      · exact h1
    · cases h
    · cases h
    · exact h2
  | a, .tup r, c, h1, h2 => by
    rcases h1.inv with h | ⟨_, _, h⟩ | ⟨_, _, _, h, _⟩ | ⟨l, r', rfl, h, hs⟩ | ⟨_, _, _, _, h, _⟩ | rfl
    · cases h
    · cases h
    · cases h
    · injection h with h; subst h
      rcases h2.inv with rfl | ⟨_, h, _⟩ | ⟨_, _, h, _⟩ | ⟨r', q, h, rfl, hs'⟩ | ⟨_, _, _, h, _⟩ | rfl
      · exact Sub.toDead _
      · cases h
      · cases h
      · injection h with h; subst h
        simp only [Sub]; exact Subs.trans hs hs'
      · cases h
      · exact h1
    · cases h
    · exact h2
  | a, .sl S r, c, h1, h2 => by
    rcases h2.inv with rfl | ⟨_, h, _⟩ | ⟨_, _, h, _⟩ | ⟨_, _, h, _⟩ | ⟨S', l', q, h, rfl, hs'⟩ | rfl
    · exact Sub.toDead _
    · cases h
    · cases h
    · cases h
    · injection h with h3 h4; subst h3; subst h4
      rcases h1.inv with h | ⟨_, rfl, h⟩ | ⟨_, _, _, h, _⟩ | ⟨_, _, _, h, _⟩ | ⟨_, l, _, rfl, h, hs⟩ | rfl
      · cases h
      · injection h with h3 h4; subst h4
        simp only [Subs] at hs'; subst hs'
        simp [Sub]
      · cases h
      · cases h
      · injection h with h3 h4; subst h3; subst h4
        simp only [Sub, true_and]; exact Subs.trans hs hs'
      · exact h2
    · exact h1
  | a, .v x, c, h1, h2 => by
    rcases h1.inv with h | ⟨_, _, h⟩ | ⟨_, _, _, h, _⟩ | ⟨_, _, _, h, _⟩ | ⟨_, _, _, _, h, _⟩ | rfl <;> first | cases h | exact h2
  | a, .pt x, c, h1, h2 => by
    rcases h1.inv with h | ⟨_, _, h⟩ | ⟨_, _, _, h, _⟩ | ⟨_, _, _, h, _⟩ | ⟨_, _, _, _, h, _⟩ | rfl <;> first | cases h | exact h2
  | a, .ref _ _ _ _, c, h1, h2 => by
    rcases h1.inv with h | ⟨_, _, h⟩ | ⟨_, _, _, h, _⟩ | ⟨_, _, _, h, _⟩ | ⟨_, _, _, _, h, _⟩ | rfl <;> first | cases h | exact h2
  | a, .own _ _, c, h1, h2 => by
    rcases h1.inv with h | ⟨_, _, h⟩ | ⟨_, _, _, h, _⟩ | ⟨_, _, _, h, _⟩ | ⟨_, _, _, _, h, _⟩ | rfl <;> first | cases h | exact h2
  | a, .view _ _ _ _, c, h1, h2 => by
    rcases h1.inv with h | ⟨_, _, h⟩ | ⟨_, _, _, h, _⟩ | ⟨_, _, _, h, _⟩ | ⟨_, _, _, _, h, _⟩ | rfl <;> first | cases h | exact h2
  | a, .fn _ _ _, c, h1, h2 => by
    rcases h1.inv with h | ⟨_, _, h⟩ | ⟨_, _, _, h, _⟩ | ⟨_, _, _, h, _⟩ | ⟨_, _, _, _, h, _⟩ | rfl <;> first | cases h | exact h2
  | a, .mp _, c, h1, h2 => by
    rcases h1.inv with h | ⟨_, _, h⟩ | ⟨_, _, _, h, _⟩ | ⟨_, _, _, h, _⟩ | ⟨_, _, _, _, h, _⟩ | rfl <;> first | cases h | exact h2
theorem Subs.trans : ∀ {a b c : List D}, Subs a b → Subs b c → Subs a c
  | [], b, c, h1, h2 => by simp only [Subs] at h1; subst h1; exact h2
  | d :: a, b, c, h1, h2 => by
    simp only [Subs] at h1
    obtain ⟨e, r, rfl, k1, k2⟩ := h1
    simp only [Subs] at h2
    obtain ⟨e', r', rfl, k3, k4⟩ := h2
    exact Subs.cons (Sub.trans k1 k3) (Subs.trans k2 k4)
end

theorem At.trans {a b c : St} (h1 : At a b) (h2 : At b c) : At a c := by
  obtain ⟨h1, g, k1⟩ := h1
  obtain ⟨h2, g', k2⟩ := h2
  exact ⟨h1.trans h2, g' ++ g, by rw [k1, k2, List.append_assoc]⟩

/-- What holds of a state holds of one that says more. -/
def Stab (N : Nat) (K : Exit → St → Prop) : Prop := ∀ s s', At s' s → Fit N s → K .normal s → K .normal s'

theorem at_ghost {s S : St} (hs : At s S) (hb : Fit N S) : ∀ (G : Gh) (w : World) (a : Act), N ≤ G.n → Rel G w a s → ∃ G', Rel G' w a S ∧ StepN N G w s.m G' w S.m := by
  intro G w a hN' hr0
  obtain ⟨h1, g, h2⟩ := hs
  obtain ⟨hN, ht, hm0⟩ := hb
  have hst : S.m = s.m.take S.m.length := by rw [h2, List.take_left]
  have hk : S.m.length ≤ s.m.length := by simp [h2]
  have hm : (s.m.take S.m.length).all (Ent.below S.m.length) = true := by rw [← hst]; exact hm0
  have hr : Rel G w a ⟨S.t, s.m⟩ := ⟨h1.rel hr0.t, hr0.inv, hr0.defers⟩
  generalize hkk : S.m.length = k at *
  obtain ⟨St, Sm⟩ := S
  simp only at hst ht hkk hr
  subst hst
  clear hr0 h2 hkk hm0
  have hi := hr.inv
  have hget : ∀ (i : Nat) e, (s.m.take k)[i]? = some e → i < k ∧ s.m[i]? = some e := by
    intro i e he
    rw [List.getElem?_take] at he
    split at he
    · rename_i hik; exact ⟨hik, he⟩
    · cases he
  have hinv : Inv (G.trim k) w (s.m.take k) := by
    refine ⟨by simp [Gh.trim]; omega, hi.F, fun i e he => ?_, fun i j e e' he he' hl hl' b hb hb' => hi.apart i j e e' (hget i e he).2 (hget j e' he').2 hl hl' b hb hb'⟩
    have hbe : e.below k = true := List.all_eq_true.1 hm e (List.mem_of_getElem? he)
    have hent := hi.ent i e (hget i e he).2
    cases e with
    | live S ver l =>
      obtain ⟨a1, a2, a3, a4, a5⟩ := hent
      refine ⟨a1, a2, a3, a4, ?_⟩
      rcases a5 with a5 | ⟨b', cs, T, hb', hF, hblk, hsz, hrow⟩
      · exact .inl a5
      · exact .inr ⟨b', cs, T, hb', hF, hblk, hsz, hrow.trim (by simpa [Ent.below] using hbe)⟩
    | mp es =>
      obtain ⟨a1, b, en, cl, a2, a3, a4, a5⟩ := hent
      exact ⟨a1, b, en, cl, a2, a3, a4, a5.trim (by simpa [Ent.below] using hbe)⟩
    | gone => trivial
  refine ⟨G.trim k, ⟨hr.t.trim ht, hinv, hr.defers⟩, ⟨fun _ h => h, fun _ _ => rfl, hN, fun i hi' => .inl ⟨rfl, rfl, rfl, rfl, rfl⟩, rfl, rfl, rfl, Nat.le_refl _, fun _ _ _ => rfl, fun _ _ h => .inl h, ?_⟩⟩
  rintro b hb ⟨i, e, he, hl, hB⟩
  exact ⟨i, e, (hget i e he).2, hl, hB⟩

/-- What holds of a state as it may be told otherwise. -/
def Clo (N : Nat) (K : Exit → St → Prop) (e : Exit) (s : St) : Prop := ∀ (G : Gh) (w : World) (a : Act), N ≤ G.n → Rel G w a s → ∃ s' G', K e s' ∧ Rel G' w a s' ∧ StepN N G w s.m G' w s'.m
theorem Clo.of {K : Exit → St → Prop} {e : Exit} {s : St} (h : K e s) : Clo N K e s := fun G w a hN hr => ⟨s, G, h, hr, StepN.refl _ _ _ hN⟩
theorem T.clo {c : C} {K : Exit → St → Prop} {s : St} (h : Tm.T P N c (Clo N K) s) : Tm.T P N c K s := by
  intro code hc G w a hN hr
  refine Code.wp_mono ?_ (h code hc G w a hN hr)
  rintro e a' w' ⟨s', G', hK, hr', hs'⟩
  obtain ⟨s'', G'', k1, k2, k3⟩ := hK G' w' a' hs'.n hr'
  exact ⟨s'', G'', k1, k2, hs'.trans k3⟩
theorem stab_C {K : Exit → St → Prop} : Stab N (Clo N K) := by
  intro s s' h1 h2 h3 G w a hN hr
  obtain ⟨G', k1, k2⟩ := at_ghost h1 h2 G w a hN hr
  obtain ⟨s'', G'', m1, m2, m3⟩ := h3 G' w a k2.n k1
  exact ⟨s'', G'', m1, m2, k2.trans m3⟩

/-- From a state that reads as S on. -/
theorem T.at {c : C} {K : Exit → St → Prop} {s S : St} (hs : At s S) (hb : Fit N S) (h : Tm.T P N c K S) : Tm.T P N c K s := by
  obtain ⟨h1, g, h2⟩ := hs
  obtain ⟨b1, b2, b3⟩ := hb
  refine T.sub S.t h1 ?_
  refine T.trim S.m.length b1 (by simp [h2]) b2 (by simpa [h2] using b3) ?_
  have hst : (⟨S.t, s.m.take S.m.length⟩ : St) = S := by rw [h2, List.take_left]
  simp only [hst]
  exact h

theorem T.seqS {a b : C} {K : Exit → St → Prop} {s : St} (h : Tm.T P N a (KS P N b K) s) : Tm.T P N (.seq a b) K s := T.seq (h.mono fun e s' h' => by cases e <;> exact h')

theorem stab_S {b : C} {K : Exit → St → Prop} : Stab N (KS P N b K) := fun s s' h1 h2 h3 => T.at h1 h2 h3
theorem stab_B {id : Nat} {K : Exit → St → Prop} (h : Stab N K) : Stab N (KB id K) := h

/-- A round's end, in a loop with a measure. -/
def KM {X : Type} (id : Nat) (K : Exit → St → Prop) (S : X → St) (good fin : X → Prop) (μ : X → Nat) (y : X) (e : Exit) (s' : St) : Prop :=
  match e with | .normal => ∃ z, good z ∧ μ z < μ y ∧ At s' (S z) | .exit j => if j = id then (∃ z, fin z ∧ At s' (S z)) else K (.exit j) s' | e => K e s'
section
variable {X : Type} {id : Nat} {K : Exit → St → Prop} {S : X → St} {good fin : X → Prop} {μ : X → Nat} {y : X} {s' : St}
theorem KM_normal : KM id K S good fin μ y .normal s' = ∃ z, good z ∧ μ z < μ y ∧ At s' (S z) := Eq.trans rfl rfl
theorem KM_exit {j : Nat} : KM id K S good fin μ y (.exit j) s' = if j = id then (∃ z, fin z ∧ At s' (S z)) else K (.exit j) s' := Eq.trans rfl rfl
theorem KM_ret : KM id K S good fin μ y .ret s' = K .ret s' := Eq.trans rfl rfl
end
/-- A round's end, in a loop of n rounds. -/
def KI (id n : Nat) (K : Exit → St → Prop) (S : Nat → St) (i : Nat) (e : Exit) (s' : St) : Prop :=
  match e with | .normal => i < n ∧ At s' (S (i + 1)) | .exit j => if j = id then i = n ∧ At s' (S n) else K (.exit j) s' | e => K e s'
section
variable {id n i : Nat} {K : Exit → St → Prop} {S : Nat → St} {s' : St}
theorem KI_normal : KI id n K S i .normal s' = (i < n ∧ At s' (S (i + 1))) := Eq.trans rfl rfl
theorem KI_exit {j : Nat} : KI id n K S i (.exit j) s' = if j = id then i = n ∧ At s' (S n) else K (.exit j) s' := Eq.trans rfl rfl
theorem KI_ret : KI id n K S i .ret s' = K .ret s' := Eq.trans rfl rfl
end

theorem stab_M {X : Type} {id : Nat} {K : Exit → St → Prop} {S : X → St} {good fin : X → Prop} {μ : X → Nat} {y : X} : Stab N (KM id K S good fin μ y) := by
  rintro s s' h1 - ⟨z, k1, k2, k3⟩
  exact ⟨z, k1, k2, h1.trans k3⟩
theorem stab_I {id n i : Nat} {K : Exit → St → Prop} {S : Nat → St} : Stab N (KI id n K S i) := by
  rintro s s' h1 - ⟨k1, k2⟩
  exact ⟨k1, h1.trans k2⟩

/-- **A loop with a measure, and the code behind it.** -/
theorem T.blkM {id : Nat} {x : C} {K : Exit → St → Prop} {s : St} {X : Type} (S : X → St) (good fin : X → Prop) (μ : X → Nat) (x₀ : X) (h0 : good x₀) (hs : At s (S x₀))
    (hb : ∀ y, good y ∨ fin y → Fit N (S y))
    (round : ∀ y, good y → Tm.T P N x (KM id K S good fin μ y) (S y))
    (hst : (∃ z, fin z) → Stab N K) (rest : ∀ z, fin z → K .normal (S z)) : Tm.T P N (.block id (.loop x)) K s := by
  refine T.at hs (hb x₀ (.inl h0)) ?_
  refine T.block (T.loopS S good μ x₀ h0 (Subs.refl' _) rfl (fun y hy => hb y (.inl hy)) fun y hy => (round y hy).mono ?_)
  intro e s' h
  cases e with
  | normal => obtain ⟨z, h1, h2, h3, h4⟩ := h; exact ⟨z, h1, h2, h3, h4⟩
  | exit j =>
    simp only [KM_exit] at h ⊢
    split at h
    · rename_i hj
      rw [if_pos hj]
      obtain ⟨z, hz, h1⟩ := h
      exact hst ⟨z, hz⟩ (S z) s' h1 (hb z (.inr hz)) (rest z hz)
    · rename_i hj
      rw [if_neg hj]
      exact h
  | _ => exact h

/-- **A loop of n rounds, and the code behind it.** -/
theorem T.blkI {id : Nat} {x : C} {K : Exit → St → Prop} {s : St} (n : Nat) (S : Nat → St) (hs : At s (S 0)) (hb : ∀ i, i ≤ n → Fit N (S i))
    (round : ∀ i, i ≤ n → Tm.T P N x (KI id n K S i) (S i))
    (hst : Stab N K) (rest : K .normal (S n)) : Tm.T P N (.block id (.loop x)) K s := by
  refine T.blkM (X := Nat) S (fun i => i ≤ n) (fun i => i = n) (fun i => n - i) 0 (Nat.zero_le _) hs (fun y hy => hb y (by omega)) (fun i hi => (round i hi).mono ?_) (fun _ => hst) (fun z hz => by rw [hz]; exact rest)
  intro e s' h
  cases e with
  | normal =>
    simp only [KI_normal] at h
    exact ⟨i + 1, h.1, by show n - (i + 1) < n - i; omega, h.2⟩
  | exit j =>
    simp only [KI_exit, KM_exit] at h ⊢
    split at h
    · rename_i hj; rw [if_pos hj]; exact ⟨n, rfl, h.2⟩
    · rename_i hj; rw [if_neg hj]; exact h
  | _ => exact h

theorem foldl_take {α β : Type} (f : α → β → α) (a : α) (l : List β) {i : Nat} (h : i < l.length) : (l.take (i + 1)).foldl f a = f ((l.take i).foldl f a) l[i] := by
  rw [List.take_succ_eq_append_getElem h, List.foldl_append]; rfl

theorem all_set {l : List Ent} {p : Ent → Bool} {i : Nat} {e : Ent} (h : l.all p = true) (he : p e = true) : (l.set i e).all p = true := by
  rw [List.all_eq_true] at h ⊢
  intro x hx
  rcases List.mem_or_eq_of_mem_set hx with h1 | h1
  · exact h x h1
  · rw [h1]; exact he

/-- A function's results, and what is claimed of them. -/
def endX (r : Option (List D)) (f : List D → Prop) : Prop := ∃ ds, r = some ds ∧ f ds
theorem endX_some (ds : List D) (f : List D → Prop) : endX (some ds) f = f ds := by
  simp [endX]
@[congr] theorem endX_congr {r r' : Option (List D)} {f : List D → Prop} (h : r = r') : endX r f = endX r' f := by rw [h]
theorem EndT_normal {rs : List RV} {R : D → List Ent → Prop} {s : St} : EndT rs R .normal s = endX (ressD s rs) fun ds => R (tupD ds) s.m := Eq.trans rfl rfl
theorem EndT_ret {rs : List RV} {R : D → List Ent → Prop} {s : St} : EndT rs R .ret s = endX (ressD s rs) fun ds => R (tupD ds) s.m := Eq.trans rfl rfl
theorem EndT_exit {rs : List RV} {R : D → List Ent → Prop} {i : Nat} {s : St} : EndT rs R (.exit i) s = False := Eq.trans rfl rfl
theorem tupD_one (d : D) : tupD [d] = d := Eq.trans rfl rfl
theorem tupD_nil : tupD [] = .tup [] := Eq.trans rfl rfl
theorem tupD_two (d e : D) (l : List D) : tupD (d :: e :: l) = .tup (d :: e :: l) := Eq.trans rfl rfl

theorem andT_ite {c : Prop} [Decidable c] (p : D × List Ent) (f : D → List Ent → Prop) : andT (if c then some p else none) f = (c ∧ f p.1 p.2) := by
  by_cases h : c <;> simp [h, andT]
theorem map_ite {α β : Type} {c : Prop} [Decidable c] (a : α) (g : α → β) : (if c then some a else none : Option α).map g = if c then some (g a) else none := by
  by_cases h : c <;> simp [h]

theorem getq_last {α : Type} {l : List α} {a : α} {n : Nat} (h : l.length = n) : (l ++ [a])[n]? = some a := by rw [← h, List.getElem?_concat_length]
theorem getq_left {α : Type} {l r : List α} {n : Nat} (h : n < l.length) : (l ++ r)[n]? = l[n]? := List.getElem?_append_left h
theorem setq_left {α : Type} {l r : List α} {a : α} {n : Nat} (h : n < l.length) : (l ++ r).set n a = l.set n a ++ r := by rw [List.set_append_left _ _ h]
theorem setq_last {α : Type} {l : List α} {a b : α} {n : Nat} (h : l.length = n) : (l ++ [a]).set n b = l ++ [b] := by
  rw [List.set_append_right _ _ (by omega), show n - l.length = 0 by omega]; rfl
theorem getq_set {α : Type} {l : List α} {a : α} {n : Nat} (h : n < l.length) : (l.set n a)[n]? = some a := by rw [List.getElem?_set_self h]
theorem getq_ne {α : Type} {l : List α} {a : α} {n k : Nat} (h : n ≠ k) : (l.set n a)[k]? = l[k]? := by rw [List.getElem?_set_ne h]
theorem setq_same {α : Type} {l : List α} {a : α} {n : Nat} (h : l[n]? = some a) : l.set n a = l := by
  apply List.ext_getElem?
  intro j
  rw [List.getElem?_set]
  split
  · rename_i hj
    subst hj
    split
    · exact h.symm
    · rename_i h1; rw [List.getElem?_eq_none (by omega)] at h; cases h
  · rfl
theorem setq_self {α : Type} {l : List α} {a b : α} {n : Nat} : (l.set n a).set n b = l.set n b := List.set_set ..

theorem wrapN (k : Nat) (h : k < 9223372036854775808) : wrapF .i64 (k : Int) = (k : Int) := by
  rw [wrapF_eq, IntKind.wrap_i64]; omega
theorem wrapSu (i : Nat) (h : i < 9223372036854775807) : wrapF .i64 ((i : Int) + 1) = ((i + 1 : Nat) : Int) := wrapN (i + 1) (by omega)
theorem wrapI {n : Int} (h : -9223372036854775808 ≤ n ∧ n ≤ 9223372036854775807) : wrapF .i64 n = n := by
  rw [wrapF_eq, IntKind.wrap_i64]; omega
theorem fdivN (a b : Nat) : Int.fdiv (a : Int) (b : Int) = ((a / b : Nat) : Int) := (Int.fdiv_eq_ediv_of_nonneg _ (by omega)).trans (by norm_cast)
theorem wrapU8 (r : Nat) : wrapF .u8 (r : Int) = ((BitVec.ofNat 8 r).toNat : Int) := by
  simp only [wrapF, BitVec.toNat_ofNat]; omega
section
variable {k : Nat} {m : List Ent} {id ver S lo n : Nat} {l : List D}
theorem froz_v {x : Value} : froz (k + 1) m (.v x) = .v x := Eq.trans rfl rfl
theorem froz_tup : froz (k + 1) m (.tup l) = .tup (l.map (froz k m)) := Eq.trans rfl rfl
theorem froz_agg : froz (k + 1) m (.agg l) = .agg (l.map (froz k m)) := Eq.trans rfl rfl
theorem froz_sl (hf : idfrees l = true) : froz (k + 1) m (.sl S l) = .sl S l := by simp only [froz, hf, if_true]
theorem froz_own (h : m[id]? = some (.live S ver l)) (hf : idfrees l = true) : froz (k + 1) m (.own id ver) = .sl S l := by simp only [froz, h, hf, if_true]
theorem froz_view (h : m[id]? = some (.live S ver l)) (hf : idfrees l = true) (hl : lo + n ≤ l.length) : froz (k + 1) m (.view id ver lo n) = .sl S ((l.drop lo).take n) := by
  simp only [froz, h, hf, if_true, hl, and_self]
end

theorem wrapU64 {n : Int} (h : 0 ≤ n ∧ n < 18446744073709551616) : wrapF .u64 n = n := by simp only [wrapF]; omega
theorem wrapU64N {k : Nat} (h : k < 18446744073709551616) : wrapF .u64 (k : Int) = (k : Int) := wrapU64 (by omega)
theorem wrapU32 {n : Int} (h : 0 ≤ n ∧ n < 4294967296) : wrapF .u32 n = n := by simp only [wrapF]; omega
theorem tdiv256 (a : Nat) : Int.tdiv (a : Int) 256 = ((a / 256 : Nat) : Int) := rfl
theorem tmod256 (a : Nat) : Int.tmod (a : Int) 256 = ((a % 256 : Nat) : Int) := rfl
theorem ofNat_mod8 (a : Nat) : BitVec.ofNat 8 (a % 256) = BitVec.ofNat 8 a := by
  apply BitVec.eq_of_toNat_eq; simp
theorem pow_le_div (u i : Nat) : u / 256 ^ i ≤ u := Nat.div_le_self ..
theorem cast0 : ((0 : Nat) : Int) = 0 := Eq.trans rfl rfl
theorem not_bool (b : Bool) : pureRun (Op.unary .not (.bool b)) = some (.bool (!b)) := Eq.trans rfl rfl
theorem natlt (a b : Nat) : ((a : Int) < (b : Int)) ↔ a < b := by omega
theorem belowsA {k : Nat} {a b : List D} (ha : belows k a = true) (hb : belows k b = true) : belows k (a ++ b) = true := by
  induction a with
  | nil => exact hb
  | cons d a ih =>
    simp only [belows, Bool.and_eq_true, List.cons_append] at ha ⊢
    exact ⟨ha.1, ih ha.2⟩
theorem belowsApp {k : Nat} {a b : List D} : belows k (a ++ b) = (belows k a && belows k b) := by
  induction a with
  | nil => simp [belows]
  | cons d a ih => simp only [belows, List.cons_append, ih, Bool.and_assoc]
theorem idfreesA {a b : List D} (ha : idfrees a = true) (hb : idfrees b = true) : idfrees (a ++ b) = true := by
  rw [idfrees_iff] at ha hb ⊢
  intro d hd
  rcases List.mem_append.1 hd with h | h
  · exact ha d h
  · exact hb d h
theorem neg_int (k : IntKind) (n : Int) : pureRun (Op.unary .neg (.int k n)) = some (.int k (wrapF k (-n))) := by
  show some (Value.int k (k.wrap (0 - n))) = _
  rw [wrapF_eq, Int.zero_sub]
theorem max_int (k : IntKind) (a b : Int) : pureRun (Builtin.max_ #[] 0 [Value.int k a, Value.int k b].toArray) = some (.int k (max a b)) := by
  simp only [Builtin.max_, pureRun, List.foldlM, bind_pure, Builtin.max2]
  by_cases h : a < b
  · rw [if_pos h, Int.max_eq_right (by omega)]; rfl
  · rw [if_neg h, Int.max_eq_left (by omega)]; rfl
theorem min_int (k : IntKind) (a b : Int) : pureRun (Builtin.min_ #[] 0 [Value.int k a, Value.int k b].toArray) = some (.int k (min a b)) := by
  simp only [Builtin.min_, pureRun, List.foldlM, bind_pure, Builtin.min2]
  by_cases h : b < a
  · rw [if_pos h, Int.min_eq_right (by omega)]; rfl
  · rw [if_neg h, Int.min_eq_left (by omega)]; rfl
section
variable {α : Type} {l b c : List α} {a a' x : α}
theorem gq1 : ((l ++ [a]) ++ b)[l.length]? = some a := by rw [List.append_assoc, List.getElem?_append_right (Nat.le_refl _), Nat.sub_self]; rfl
theorem gq2 : (((l ++ [a]) ++ b) ++ c)[l.length]? = some a := by rw [List.append_assoc, gq1]
theorem gq3 {d : List α} : ((((l ++ [a]) ++ b) ++ c) ++ d)[l.length]? = some a := by rw [List.append_assoc, gq2]
theorem gq12 : (((l ++ [a]) ++ [a']) ++ c)[l.length + 1]? = some a' := by
  have := gq1 (l := l ++ [a]) (a := a') (b := c); rwa [List.length_append] at this
theorem gq13 {d : List α} : ((((l ++ [a]) ++ [a']) ++ c) ++ d)[l.length + 1]? = some a' := by rw [List.append_assoc, gq12]
theorem sq1 : ((l ++ [a]) ++ b).set l.length x = (l ++ [x]) ++ b := by rw [List.append_assoc, List.set_append_right _ _ (Nat.le_refl _), Nat.sub_self, List.append_assoc]; rfl
theorem sq2 : (((l ++ [a]) ++ b) ++ c).set l.length x = ((l ++ [x]) ++ b) ++ c := by rw [List.append_assoc, sq1]; simp only [List.append_assoc]
theorem sq3 {d : List α} : ((((l ++ [a]) ++ b) ++ c) ++ d).set l.length x = (((l ++ [x]) ++ b) ++ c) ++ d := by rw [List.append_assoc, sq2]; simp only [List.append_assoc]
theorem sq12 : (((l ++ [a]) ++ [a']) ++ c).set (l.length + 1) x = ((l ++ [a]) ++ [x]) ++ c := by
  have := sq1 (l := l ++ [a]) (a := a') (b := c) (x := x); rwa [List.length_append] at this
theorem cut1 {m r : List Ent} {a : Ent} : ((m ++ [a]) ++ r).take (m.length + 1) = m ++ [a] := List.take_left' (by simp)
theorem cut2 {m r q : List Ent} {a : Ent} : (((m ++ [a]) ++ r) ++ q).take (m.length + 1) = m ++ [a] := by rw [List.append_assoc]; exact cut1
theorem cut3 {m r q s : List Ent} {a : Ent} : ((((m ++ [a]) ++ r) ++ q) ++ s).take (m.length + 1) = m ++ [a] := by rw [List.append_assoc]; exact cut2
theorem cut0 {m r : List Ent} : (m ++ r).take m.length = m := List.take_left' rfl
theorem cut01 {m r q : List Ent} : ((m ++ r) ++ q).take m.length = m := by rw [List.append_assoc]; exact cut0
theorem cut02 {m r q s : List Ent} : (((m ++ r) ++ q) ++ s).take m.length = m := by rw [List.append_assoc]; exact cut01
end
end Go.Tm
