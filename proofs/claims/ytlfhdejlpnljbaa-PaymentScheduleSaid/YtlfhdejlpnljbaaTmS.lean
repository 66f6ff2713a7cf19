/-
  A region whose order is open: its operations may be carried out in the text's order.
-/
import Derived.Test.YtlfhdejlpnljbaaTmQ
import Derived.Orders
set_option linter.unusedSimpArgs false
set_option linter.unusedVariables false
namespace Go.Tm
open Go.RowKit (Below)

theorem ev_congr {s s' : St} {x : Operand} (h : ∀ t ∈ tmpOf x, s'.t.getD t .dead = s.t.getD t .dead) : s'.ev x = s.ev x := by
  cases x <;> simp [St.ev]
  rename_i t
  have := h t (by simp [tmpOf])
  simpa [List.getD_eq_getElem?_getD] using this

theorem bound_congr {s s' : St} {d : Nat} {x : Option Operand} (h : ∀ t ∈ optOf x, s'.t.getD t .dead = s.t.getD t .dead) : bound s' d x = bound s d x := by
  cases x with
  | none => rfl
  | some y => simp only [bound, ev_congr (s := s) (s' := s') (x := y) (fun t ht => h t ht)]

theorem buildD_congr {s s' : St} : ∀ {ps : List (Nat × Nat × Operand)} {l : List D}, (∀ t ∈ ps.flatMap (fun p => tmpOf p.2.2), s'.t.getD t .dead = s.t.getD t .dead) → buildD s' ps l = buildD s ps l
  | [], l, h => rfl
  | (o, n, x) :: ps, l, h => by
    simp only [buildD, ev_congr (s := s) (s' := s') (x := x) (fun t ht => h t (by simp; exact .inl ht))]
    split
    · exact buildD_congr fun t ht => h t (by simp at ht ⊢; exact .inr ht)
    · rfl

theorem bsliceD_congr {s s' : St} {S : Nat} : ∀ {ps : List (Nat × Operand)} {l : List D}, (∀ t ∈ ps.flatMap (fun p => tmpOf p.2), s'.t.getD t .dead = s.t.getD t .dead) → bsliceD s' S ps l = bsliceD s S ps l
  | [], l, h => rfl
  | (o, x) :: ps, l, h => by
    simp only [bsliceD, ev_congr (s := s) (s' := s') (x := x) (fun t ht => h t (by simp; exact .inl ht))]
    split
    · exact bsliceD_congr fun t ht => h t (by simp at ht ⊢; exact .inr ht)
    · rfl

theorem map_congr {s s' : St} : ∀ {l : List Operand}, (∀ t ∈ l.flatMap tmpOf, s'.t.getD t .dead = s.t.getD t .dead) → l.map s'.ev = l.map s.ev
  | [], h => rfl
  | x :: l, h => by
    simp only [List.map_cons, ev_congr (s := s) (s' := s') (x := x) (fun t ht => h t (by simp; exact .inl ht))]
    rw [map_congr fun t ht => h t (by simp at ht ⊢; exact .inr ht)]

theorem gate_congr {s s' : St} {g : Option (Tmp × Bool)} (h : ∀ t ∈ gReads g, s'.t.getD t .dead = s.t.getD t .dead) : gate s' g = gate s g := by
  cases g with
  | none => rfl
  | some p => obtain ⟨t, b⟩ := p; simp only [gate, h t (by simp [gReads])]

/-- The resource that a tree names itself. -/
def topId : D → Option Nat
  | .ref i _ _ _ => some i
  | .own i _ => some i
  | .view i _ _ _ => some i
  | .mp i => some i
  | _ => none

/-- The operand whose resource a reading instruction looks at. -/
def I.at? : I → Option Operand
  | .load _ _ x | .slice _ x _ _ _ | .iaddr _ x _ | .len x | .mlook _ _ _ x _ | .mlen x => some x
  | _ => none

theorem look_lenOf {m m' : List Ent} {d : D} (h : ∀ i, topId d = some i → m'[i]? = m[i]?) : lenOfD m' d = lenOfD m d := by
  unfold lenOfD
  split <;> first | rfl | (rename_i id ver; rw [h id rfl]) | (rename_i id _ _ _; rw [h id rfl])

theorem look_slice {S : Nat} {m m' : List Ent} {d : D} {lo hi : Nat} (h : ∀ i, topId d = some i → m'[i]? = m[i]?) : sliceD S m' d lo hi = sliceD S m d lo hi := by
  unfold sliceD
  split <;> first | rfl | (rename_i id ver; rw [h id rfl]) | (rename_i id ver l0 n; rw [h id rfl])

/-- An instruction that makes and changes nothing comes to the same where its operands and the resource that it looks at are the same. -/
theorem evalI_congr {s s' : St} {i : I} {d : D} (hc : i.cls ≤ 1) (ht : ∀ t ∈ i.reads, s'.t.getD t .dead = s.t.getD t .dead) (hm : ∀ x id, i.at? = some x → topId (s.ev x) = some id → s'.m[id]? = s.m[id]?)
    {m1 : List Ent} (he : evalI s i = some (d, m1)) : m1 = s.m ∧ evalI s' i = some (d, s'.m) := by
  cases i with
  | mv x =>
    simp only [evalI, Option.some.injEq, Prod.mk.injEq] at he ⊢
    rw [ev_congr (s := s) (s' := s') (x := x) (fun t h => ht t (by simpa [I.reads] using h))]
    exact ⟨he.2.symm, he.1, by trivial⟩
  | pick c a b =>
    simp only [evalI] at he ⊢
    rw [ev_congr (s := s) (s' := s') (x := c) (fun t h => ht t (by simp [I.reads, h])), ev_congr (s := s) (s' := s') (x := a) (fun t h => ht t (by simp [I.reads, h])), ev_congr (s := s) (s' := s') (x := b) (fun t h => ht t (by simp [I.reads, h]))]
    split at he
    all_goals first | (simp_all; done) | (simp only [Option.map_eq_some_iff, Prod.mk.injEq] at he ⊢; obtain ⟨_, h1, rfl, rfl⟩ := he; exact ⟨rfl, _, h1, by simp⟩) | (simp_all; obtain ⟨_, h1, h2, h3⟩ := he; exact ⟨h3.symm, _, h1, h2⟩)
  | bin op x y =>
    simp only [evalI] at he ⊢
    rw [ev_congr (s := s) (s' := s') (x := x) (fun t h => ht t (by simp [I.reads, h])), ev_congr (s := s) (s' := s') (x := y) (fun t h => ht t (by simp [I.reads, h]))]
    split at he
    all_goals first | (simp_all; done) | (simp only [Option.map_eq_some_iff, Prod.mk.injEq] at he ⊢; obtain ⟨_, h1, rfl, rfl⟩ := he; exact ⟨rfl, _, h1, by simp⟩) | (simp_all; obtain ⟨_, h1, h2, h3⟩ := he; exact ⟨h3.symm, _, h1, h2⟩)
  | beq n x y =>
    simp only [evalI] at he ⊢
    rw [ev_congr (s := s) (s' := s') (x := x) (fun t h => ht t (by simp [I.reads, h])), ev_congr (s := s) (s' := s') (x := y) (fun t h => ht t (by simp [I.reads, h]))]
    split at he
    all_goals first | (simp_all; done) | (simp only [Option.map_eq_some_iff, Prod.mk.injEq] at he ⊢; obtain ⟨_, h1, rfl, rfl⟩ := he; exact ⟨rfl, _, h1, by simp⟩) | (simp_all; obtain ⟨_, h1, h2, h3⟩ := he; exact ⟨h3.symm, _, h1, h2⟩)
  | un op x =>
    simp only [evalI] at he ⊢
    rw [ev_congr (s := s) (s' := s') (x := x) (fun t h => ht t (by simpa [I.reads] using h))]
    split at he
    all_goals first | (simp_all; done) | (simp only [Option.map_eq_some_iff, Prod.mk.injEq] at he ⊢; obtain ⟨_, h1, rfl, rfl⟩ := he; exact ⟨rfl, _, h1, by simp⟩) | (simp_all; obtain ⟨_, h1, h2, h3⟩ := he; exact ⟨h3.symm, _, h1, h2⟩)
  | conv k x =>
    simp only [evalI] at he ⊢
    rw [ev_congr (s := s) (s' := s') (x := x) (fun t h => ht t (by simpa [I.reads] using h))]
    split at he
    all_goals first | (simp_all; done) | (simp only [Option.map_eq_some_iff, Prod.mk.injEq] at he ⊢; obtain ⟨_, h1, rfl, rfl⟩ := he; exact ⟨rfl, _, h1, by simp⟩) | (simp_all; obtain ⟨_, h1, h2, h3⟩ := he; exact ⟨h3.symm, _, h1, h2⟩)
  | build z ps =>
    simp only [evalI] at he ⊢
    rw [buildD_congr (s := s) (s' := s') (fun t h => ht t (by simpa [I.reads] using h))]
    cases hb : buildD s ps z with
    | none => simp [hb] at he
    | some l => simp_all
  | nilc x =>
    simp only [evalI] at he ⊢
    rw [ev_congr (s := s) (s' := s') (x := x) (fun t h => ht t (by simpa [I.reads] using h))]
    split at he
    all_goals first | (simp_all; done) | (simp only [Option.map_eq_some_iff, Prod.mk.injEq] at he ⊢; obtain ⟨_, h1, rfl, rfl⟩ := he; exact ⟨rfl, _, h1, by simp⟩) | (simp_all; obtain ⟨_, h1, h2, h3⟩ := he; exact ⟨h3.symm, _, h1, h2⟩)
  | faddr A n o x =>
    simp only [evalI] at he ⊢
    rw [ev_congr (s := s) (s' := s') (x := x) (fun t h => ht t (by simpa [I.reads] using h))]
    split at he
    all_goals first | (simp_all; done) | (simp only [Option.map_eq_some_iff, Prod.mk.injEq] at he ⊢; obtain ⟨_, h1, rfl, rfl⟩ := he; exact ⟨rfl, _, h1, by simp⟩) | (simp_all; obtain ⟨_, h1, h2, h3⟩ := he; exact ⟨h3.symm, _, h1, h2⟩)
  | field A n o x =>
    simp only [evalI] at he ⊢
    rw [ev_congr (s := s) (s' := s') (x := x) (fun t h => ht t (by simpa [I.reads] using h))]
    split at he
    all_goals first | (simp_all; done) | (simp only [Option.map_eq_some_iff, Prod.mk.injEq] at he ⊢; obtain ⟨_, h1, rfl, rfl⟩ := he; exact ⟨rfl, _, h1, by simp⟩) | (simp_all; obtain ⟨_, h1, h2, h3⟩ := he; exact ⟨h3.symm, _, h1, h2⟩)
  | extract x k =>
    simp only [evalI] at he ⊢
    rw [ev_congr (s := s) (s' := s') (x := x) (fun t h => ht t (by simpa [I.reads] using h))]
    split at he
    all_goals first | (simp_all; done) | (simp only [Option.map_eq_some_iff, Prod.mk.injEq] at he ⊢; obtain ⟨_, h1, rfl, rfl⟩ := he; exact ⟨rfl, _, h1, by simp⟩) | (simp_all; obtain ⟨_, h1, h2, h3⟩ := he; exact ⟨h3.symm, _, h1, h2⟩)
  | mkfunc f a b =>
    simp only [evalI, Option.some.injEq, Prod.mk.injEq] at he ⊢
    rw [map_congr (s := s) (s' := s') (l := a) (fun t h => ht t (by simp [I.reads] at h ⊢; exact .inl h)), map_congr (s := s) (s' := s') (l := b) (fun t h => ht t (by simp [I.reads] at h ⊢; exact .inr h))]
    exact ⟨he.2.symm, he.1, by trivial⟩
  | aaddr A S n x y =>
    simp only [evalI] at he ⊢
    rw [ev_congr (s := s) (s' := s') (x := x) (fun t h => ht t (by simp [I.reads, h])), ev_congr (s := s) (s' := s') (x := y) (fun t h => ht t (by simp [I.reads, h]))]
    repeat' split at he
    all_goals first | (simp_all; done) | (simp only [Option.map_eq_some_iff, Prod.mk.injEq] at he ⊢; obtain ⟨_, h1, rfl, rfl⟩ := he; exact ⟨rfl, _, h1, by simp⟩) | (simp_all; obtain ⟨_, h1, h2, h3⟩ := he; exact ⟨h3.symm, _, h1, h2⟩)
  | index A S n x y =>
    simp only [evalI] at he ⊢
    rw [ev_congr (s := s) (s' := s') (x := x) (fun t h => ht t (by simp [I.reads, h])), ev_congr (s := s) (s' := s') (x := y) (fun t h => ht t (by simp [I.reads, h]))]
    split at he
    · split at he
      · rename_i hk
        rw [if_pos hk]
        split at he
        · simp only [Option.map_eq_some_iff, Prod.mk.injEq] at he ⊢
          obtain ⟨_, h1, rfl, rfl⟩ := he
          exact ⟨rfl, _, h1, by simp⟩
        · cases he
      · cases he
    · cases he
  | slen x =>
    simp only [evalI] at he ⊢
    rw [ev_congr (s := s) (s' := s') (x := x) (fun t h => ht t (by simpa [I.reads] using h))]
    split at he
    all_goals first | (simp_all; done) | (simp only [Option.map_eq_some_iff, Prod.mk.injEq] at he ⊢; obtain ⟨_, h1, rfl, rfl⟩ := he; exact ⟨rfl, _, h1, by simp⟩) | (simp_all; obtain ⟨_, h1, h2, h3⟩ := he; exact ⟨h3.symm, _, h1, h2⟩)
  | len x =>
    simp only [evalI] at he ⊢
    rw [ev_congr (s := s) (s' := s') (x := x) (fun t h => ht t (by simpa [I.reads] using h)), look_lenOf (fun id h => hm x id rfl h)]
    cases hb : lenOfD s.m (s.ev x) with
    | none => simp [hb] at he
    | some l => simp_all
  | slice S x lo hi mx =>
    simp only [evalI] at he ⊢
    rw [ev_congr (s := s) (s' := s') (x := x) (fun t h => ht t (by simp [I.reads, h])), look_lenOf (fun id h => hm x id rfl h)]
    cases hb : lenOfD s.m (s.ev x) with
    | none => simp [hb] at he
    | some n =>
      simp only [hb] at he ⊢
      rw [bound_congr (s := s) (s' := s') (x := lo) (fun t h => ht t (by simp [I.reads, h])), bound_congr (s := s) (s' := s') (x := hi) (fun t h => ht t (by simp [I.reads, h])), bound_congr (s := s) (s' := s') (x := mx) (fun t h => ht t (by simp [I.reads, h]))]
      split at he
      · rename_i l h k h1 h2 h3
        try simp only
        rw [look_slice (fun id h => hm x id rfl h)]
        split at he
        · rename_i hc
          rw [if_pos hc]
          cases hs : sliceD S s.m (s.ev x) l h with
          | none => simp [hs] at he
          | some r => simp_all
        · cases he
      · cases he
  | iaddr S x y =>
    simp only [evalI] at he ⊢
    rw [ev_congr (s := s) (s' := s') (x := x) (fun t h => ht t (by simp [I.reads, h])), ev_congr (s := s) (s' := s') (x := y) (fun t h => ht t (by simp [I.reads, h]))]
    split at he
    · split at he
      · rename_i k hk
        rw [if_pos hk]
        split at he
        · repeat' split at he
          all_goals first | (simp_all; done) | (simp only [Option.map_eq_some_iff, Prod.mk.injEq] at he ⊢; obtain ⟨_, h1, rfl, rfl⟩ := he; exact ⟨rfl, _, h1, by simp⟩) | (simp_all; obtain ⟨_, h1, h2, h3⟩ := he; exact ⟨h3.symm, _, h1, h2⟩)
        · rename_i id ver hx
          try simp only
          rw [hm x id rfl (by rw [hx]; rfl)]
          repeat' split at he
          all_goals first | (simp_all; done) | (simp only [Option.map_eq_some_iff, Prod.mk.injEq] at he ⊢; obtain ⟨_, h1, rfl, rfl⟩ := he; exact ⟨rfl, _, h1, by simp⟩) | (simp_all; obtain ⟨_, h1, h2, h3⟩ := he; exact ⟨h3.symm, _, h1, h2⟩)
        · rename_i id ver lo n hx
          try simp only
          rw [hm x id rfl (by rw [hx]; rfl)]
          repeat' split at he
          all_goals first | (simp_all; done) | (simp only [Option.map_eq_some_iff, Prod.mk.injEq] at he ⊢; obtain ⟨_, h1, rfl, rfl⟩ := he; exact ⟨rfl, _, h1, by simp⟩) | (simp_all; obtain ⟨_, h1, h2, h3⟩ := he; exact ⟨h3.symm, _, h1, h2⟩)
        · cases he
      · cases he
    · cases he
  | load A n x =>
    simp only [evalI] at he ⊢
    rw [ev_congr (s := s) (s' := s') (x := x) (fun t h => ht t (by simpa [I.reads] using h))]
    split at he
    · repeat' split at he
      all_goals simp_all
    · rename_i id ver idx sub hx
      try simp only
      rw [hm x id rfl (by rw [hx]; rfl)]
      split at he
      · rename_i S ver' l hml
        try simp only
        split at he
        · rename_i hv
          rw [if_pos hv]
          simp only [Option.bind_eq_some_iff] at he ⊢
          obtain ⟨e, hl, he⟩ := he
          split at he
          · rename_i hok
            simp only [Option.map_eq_some_iff, Prod.mk.injEq] at he
            obtain ⟨r, hp, rfl, rfl⟩ := he
            exact ⟨rfl, e, hl, by rw [if_pos hok, hp]; rfl⟩
          · cases he
        · cases he
      · cases he
    · cases he
  | alloc S z => simp [I.cls] at hc
  | box S x => simp [I.cls] at hc
  | bslice S n z ps => simp [I.cls] at hc
  | mkslice S b z l c => simp [I.cls] at hc
  | store n x y => simp [I.cls] at hc
  | append S b x y => simp [I.cls] at hc
  | fail => simp [evalI] at he
  | mm b xs =>
    simp only [evalI] at he ⊢
    rw [map_congr (s := s) (s' := s') (l := xs) (fun t h => ht t (by simpa [I.reads] using h))]
    split at he
    all_goals first | (simp_all; done) | (simp only [Option.map_eq_some_iff, Prod.mk.injEq] at he ⊢; obtain ⟨_, h1, rfl, rfl⟩ := he; exact ⟨rfl, _, h1, by simp⟩) | (simp_all; obtain ⟨_, h1, h2, h3⟩ := he; exact ⟨h3.symm, _, h1, h2⟩)
  | ceq n ks x y =>
    simp only [evalI] at he ⊢
    rw [ev_congr (s := s) (s' := s') (x := x) (fun t h => ht t (by simp [I.reads, h])), ev_congr (s := s) (s' := s') (x := y) (fun t h => ht t (by simp [I.reads, h]))]
    split at he
    all_goals first | (simp_all; done) | (simp only [Option.map_eq_some_iff, Prod.mk.injEq] at he ⊢; obtain ⟨_, h1, rfl, rfl⟩ := he; exact ⟨rfl, _, h1, by simp⟩) | (simp_all; obtain ⟨_, h1, h2, h3⟩ := he; exact ⟨h3.symm, _, h1, h2⟩)
  | strb S x => simp [I.cls] at hc
  | sidx x y =>
    simp only [evalI] at he ⊢
    rw [ev_congr (s := s) (s' := s') (x := x) (fun t h => ht t (by simp [I.reads, h])), ev_congr (s := s) (s' := s') (x := y) (fun t h => ht t (by simp [I.reads, h]))]
    split at he
    · split at he
      · rename_i hk
        rw [dif_pos hk]
        simp_all
      · cases he
    · cases he
  | sslice x lo hi =>
    simp only [evalI] at he ⊢
    rw [ev_congr (s := s) (s' := s') (x := x) (fun t h => ht t (by simp [I.reads, h]))]
    split at he
    · rename_i b hb
      rw [bound_congr (s := s) (s' := s') (x := lo) (fun t h => ht t (by simp [I.reads, h])), bound_congr (s := s) (s' := s') (x := hi) (fun t h => ht t (by simp [I.reads, h]))]
      split at he
      · split at he
        · rename_i hk
          simp_all
        · cases he
      · cases he
    · cases he
  | mkmap => simp [I.cls] at hc
  | mput K m k x => simp [I.cls] at hc
  | mlook K ok z x k =>
    simp only [evalI] at he ⊢
    rw [ev_congr (s := s) (s' := s') (x := x) (fun t h => ht t (by simp [I.reads, h])), ev_congr (s := s) (s' := s') (x := k) (fun t h => ht t (by simp [I.reads, h]))]
    split at he
    · split at he
      · rename_i hk
        rw [if_pos hk]
        split at he
        · simp_all
        · rename_i id hx
          try simp only
          rw [hm x id rfl (by rw [hx]; rfl)]
          split at he
          · split at he
            · rename_i hall
              rw [if_pos hall]
              split at he <;> simp_all
            · cases he
          · cases he
        · cases he
      · cases he
    · cases he
  | mlen x =>
    simp only [evalI] at he ⊢
    rw [ev_congr (s := s) (s' := s') (x := x) (fun t h => ht t (by simp [I.reads, h]))]
    split at he
    · simp_all
    · rename_i id hx
      try simp only
      rw [hm x id rfl (by rw [hx]; rfl)]
      split at he
      · simp_all
      · cases he
    · cases he

/-- An instruction that makes a resource comes to the same where its operands and all resources are the same. -/
theorem evalI_make {s s' : St} {i : I} {d : D} (hc : i.cls = 2) (ht : ∀ t ∈ i.reads, s'.t.getD t .dead = s.t.getD t .dead) (hm : s'.m = s.m) {m1 : List Ent} (he : evalI s i = some (d, m1)) : evalI s' i = some (d, m1) ∧ ∃ e, m1 = s.m ++ [e] := by
  cases i with
  | alloc S z => simp only [evalI, Option.some.injEq, Prod.mk.injEq] at he ⊢; rw [hm]; exact ⟨he, _, he.2.symm⟩
  | box S x =>
    simp only [evalI] at he ⊢
    rw [ev_congr (s := s) (s' := s') (x := x) (fun t h => ht t (by simpa [I.reads] using h)), hm]
    split at he
    · rename_i hc
      rw [if_pos hc]
      refine ⟨he, ?_⟩
      injection he with he
      injection he with h1 h2
      exact ⟨_, h2.symm⟩
    · cases he
  | bslice S n z ps =>
    simp only [evalI] at he ⊢
    rw [bsliceD_congr (s := s) (s' := s') (fun t h => ht t (by simpa [I.reads] using h)), hm]
    refine ⟨he, ?_⟩
    simp only [Option.map_eq_some_iff, Prod.mk.injEq] at he
    obtain ⟨l, h1, h2, h3⟩ := he
    exact ⟨_, h3.symm⟩
  | mkslice S b z l c =>
    simp only [evalI] at he ⊢
    rw [ev_congr (s := s) (s' := s') (x := l) (fun t h => ht t (by simp [I.reads, h])), ev_congr (s := s) (s' := s') (x := c) (fun t h => ht t (by simp [I.reads, h])), hm]
    refine ⟨he, ?_⟩
    split at he
    · split at he
      · injection he with he
        injection he with h1 h2
        exact ⟨_, h2.symm⟩
      · cases he
    · cases he
  | mkmap =>
    simp only [evalI, Option.some.injEq, Prod.mk.injEq] at he ⊢
    rw [hm]
    exact ⟨he, _, he.2.symm⟩
  | _ => simp [I.cls] at hc

/-- The set L holds, with each operation, what it waits for. -/
def Closed (bs : List (List Nat)) (L : Nat → Bool) : Prop := ∀ i b, bs[i]? = some b → L i = true → ∀ e ∈ b, L e = true

theorem maskOf_bit (acc : List Nat) {L : Nat → Bool} (hacc : ∀ e, L e = true → ∀ j, (acc.getD e 0).testBit j = true → L j = true) :
    ∀ (b : List Nat) (s : Nat), (∀ e ∈ b, L e = true) → (∀ j, s.testBit j = true → L j = true) → ∀ j, (b.foldl (fun s e => s ||| 2 ^ e ||| acc.getD e 0) s).testBit j = true → L j = true
  | [], s, _, hs, j, h => hs j h
  | e :: b, s, hb, hs, j, h => by
    simp only [List.foldl_cons] at h
    refine maskOf_bit acc hacc b _ (fun x hx => hb x (by simp [hx])) (fun k hk => ?_) j h
    simp only [Nat.testBit_or, Bool.or_eq_true] at hk
    rcases hk with (hk | hk) | hk
    · exact hs k hk
    · rw [Nat.testBit_two_pow] at hk
      have : e = k := by simpa using hk
      subst this
      exact hb e (by simp)
    · exact hacc e (hb e (by simp)) k hk

theorem masksFrom_bit {bs : List (List Nat)} {L : Nat → Bool} (hL : Closed bs L) : ∀ (k : Nat) (acc : List Nat), acc.length = k → (∀ e, L e = true → ∀ j, (acc.getD e 0).testBit j = true → L j = true) →
    ∀ e, L e = true → ∀ j, ((masksFrom acc (bs.drop k)).getD e 0).testBit j = true → L j = true := by
  intro k
  have main : ∀ (n k : Nat) (acc : List Nat), bs.length - k = n → acc.length = k → (∀ e, L e = true → ∀ j, (acc.getD e 0).testBit j = true → L j = true) →
      ∀ e, L e = true → ∀ j, ((masksFrom acc (bs.drop k)).getD e 0).testBit j = true → L j = true := by
    intro n
    induction n with
    | zero =>
      intro k acc hn hl hacc e he j hj
      rw [List.drop_eq_nil_of_le (by omega)] at hj
      exact hacc e he j hj
    | succ n ih =>
      intro k acc hn hl hacc e he j hj
      have hk : k < bs.length := by omega
      rw [List.drop_eq_getElem_cons hk] at hj
      simp only [masksFrom] at hj
      refine ih (k + 1) (acc ++ [maskOf acc bs[k]]) (by omega) (by simp [hl]) ?_ e he j hj
      intro x hx y hy
      rw [List.getD_eq_getElem?_getD, List.getElem?_append] at hy
      split at hy
      · exact hacc x hx y (by rw [List.getD_eq_getElem?_getD]; exact hy)
      · rename_i hlt
        by_cases hxk : x = k
        · subst hxk
          rw [hl, Nat.sub_self] at hy
          simp only [List.getElem?_cons_zero, Option.getD_some] at hy
          exact maskOf_bit acc hacc _ 0 (fun e' he' => hL x _ (List.getElem?_eq_getElem hk) hx e' he') (fun j h => by simp at h) y hy
        · rw [List.getElem?_eq_none (by simp; omega)] at hy
          simp at hy
  exact fun acc => main _ k acc rfl

theorem masks_bit {bs : List (List Nat)} {L : Nat → Bool} (hL : Closed bs L) {e j : Nat} (he : L e = true) (hj : ((masks bs).getD e 0).testBit j = true) : L j = true := by
  have := masksFrom_bit hL 0 [] rfl (fun e _ j h => by simp at h) e he j
  simp only [List.drop_zero] at this
  exact this hj

end Go.Tm
