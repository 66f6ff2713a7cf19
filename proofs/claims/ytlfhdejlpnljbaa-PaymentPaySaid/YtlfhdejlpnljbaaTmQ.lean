/-
  What may be told otherwise: a slot forgotten, a nil slice taken as a list of one's own, a list of one's own let be.
-/
import Derived.Test.YtlfhdejlpnljbaaTmO
set_option linter.unusedSimpArgs false
set_option linter.unusedVariables false
namespace Go.Tm
open Go.RowKit (Below)

mutual
/-- One tree says less than another, of the same values. -/
def Sub : D → D → Prop
  | _, .dead => True
  | .v x, .sl _ l => x = .slice none 0 0 ∧ l = []
  | .agg l, .agg r => Subs l r
  | .tup l, .tup r => Subs l r
  | .sl S l, .sl S' r => S = S' ∧ Subs l r
  | d, e => d = e
def Subs : List D → List D → Prop
  | [], r => r = []
  | d :: l, r => ∃ e r', r = e :: r' ∧ Sub d e ∧ Subs l r'
end

theorem Subs.length : ∀ {l r : List D}, Subs l r → l.length = r.length
  | [], r, h => by simp [Subs] at h; simp [h]
  | d :: l, r, h => by
    simp only [Subs] at h
    obtain ⟨e, r', rfl, _, h2⟩ := h
    simp [Subs.length h2]

mutual
theorem Sub.rel {G : Gh} {w : World} : ∀ {d e : D} {u : Value}, Sub d e → VRel G w d u → VRel G w e u
  | d, .dead, u, _, _ => by simp [VRel]
  | .v x, .sl S l, u, hs, h => by
    simp only [Sub] at hs
    obtain ⟨rfl, rfl⟩ := hs
    simp only [VRel] at h ⊢
    exact ⟨none, 0, 0, h, rfl, Nat.le_refl _, by simp⟩
  | .agg l, .agg r, u, hs, h => by
    simp only [Sub] at hs
    simp only [VRel] at h ⊢
    obtain ⟨cs, rfl, h, h1⟩ := h
    exact ⟨cs, rfl, Subs.rel hs h, h1⟩
  | .tup l, .tup r, u, hs, h => by
    simp only [Sub] at hs
    simp only [VRel] at h ⊢
    obtain ⟨cs, rfl, h⟩ := h
    exact ⟨cs, rfl, Subs.rel hs h⟩
  | .sl S l, .sl S' r, u, hs, h => by
    simp only [Sub] at hs
    obtain ⟨rfl, hs⟩ := hs
    simp only [VRel] at h ⊢
    obtain ⟨a, n, cap, rfl, hn, hc, h⟩ := h
    refine ⟨a, n, cap, rfl, by rw [← hs.length]; exact hn, hc, ?_⟩
    rcases h with rfl | ⟨b, off, rfl, hF, hr⟩
    · simp only [Subs] at hs; exact .inl hs
    · exact .inr ⟨b, off, rfl, hF, Subs.row hs hr⟩
  | .v x, .v y, u, hs, h => by simp only [Sub] at hs; rw [← hs]; exact h
  | .v x, .agg y, u, hs, h => by simp only [Sub] at hs; cases hs
  | .v x, .tup y, u, hs, h => by simp only [Sub] at hs; cases hs
  | .v x, .pt y, u, hs, h => by simp only [Sub] at hs; cases hs
  | .v x, .ref .., u, hs, h => by simp only [Sub] at hs; cases hs
  | .v x, .own .., u, hs, h => by simp only [Sub] at hs; cases hs
  | .v x, .view .., u, hs, h => by simp only [Sub] at hs; cases hs
  | .v x, .fn .., u, hs, h => by simp only [Sub] at hs; cases hs
  | .v x, .mp .., u, hs, h => by simp only [Sub] at hs; cases hs
  | .agg l, .v y, u, hs, h => by simp only [Sub] at hs; cases hs
  | .agg l, .tup y, u, hs, h => by simp only [Sub] at hs; cases hs
  | .agg l, .sl .., u, hs, h => by simp only [Sub] at hs; cases hs
  | .agg l, .pt y, u, hs, h => by simp only [Sub] at hs; cases hs
  | .agg l, .ref .., u, hs, h => by simp only [Sub] at hs; cases hs
  | .agg l, .own .., u, hs, h => by simp only [Sub] at hs; cases hs
  | .agg l, .view .., u, hs, h => by simp only [Sub] at hs; cases hs
  | .agg l, .fn .., u, hs, h => by simp only [Sub] at hs; cases hs
  | .agg l, .mp .., u, hs, h => by simp only [Sub] at hs; cases hs
  | .tup l, .v y, u, hs, h => by simp only [Sub] at hs; cases hs
  | .tup l, .agg y, u, hs, h => by simp only [Sub] at hs; cases hs
  | .tup l, .sl .., u, hs, h => by simp only [Sub] at hs; cases hs
  | .tup l, .pt y, u, hs, h => by simp only [Sub] at hs; cases hs
  | .tup l, .ref .., u, hs, h => by simp only [Sub] at hs; cases hs
  | .tup l, .own .., u, hs, h => by simp only [Sub] at hs; cases hs
  | .tup l, .view .., u, hs, h => by simp only [Sub] at hs; cases hs
  | .tup l, .fn .., u, hs, h => by simp only [Sub] at hs; cases hs
  | .tup l, .mp .., u, hs, h => by simp only [Sub] at hs; cases hs
  | .sl S l, .v y, u, hs, h => by simp only [Sub] at hs; cases hs
  | .sl S l, .agg y, u, hs, h => by simp only [Sub] at hs; cases hs
  | .sl S l, .tup .., u, hs, h => by simp only [Sub] at hs; cases hs
  | .sl S l, .pt y, u, hs, h => by simp only [Sub] at hs; cases hs
  | .sl S l, .ref .., u, hs, h => by simp only [Sub] at hs; cases hs
  | .sl S l, .own .., u, hs, h => by simp only [Sub] at hs; cases hs
  | .sl S l, .view .., u, hs, h => by simp only [Sub] at hs; cases hs
  | .sl S l, .fn .., u, hs, h => by simp only [Sub] at hs; cases hs
  | .sl S l, .mp .., u, hs, h => by simp only [Sub] at hs; cases hs
  | .pt x, e, u, hs, h => by cases e <;> simp only [Sub] at hs <;> first | (simp [VRel]; done) | (rw [← hs]; exact h) | cases hs
  | .ref a b c d, e, u, hs, h => by cases e <;> simp only [Sub] at hs <;> first | (simp [VRel]; done) | (rw [← hs]; exact h) | cases hs
  | .own a b, e, u, hs, h => by cases e <;> simp only [Sub] at hs <;> first | (simp [VRel]; done) | (rw [← hs]; exact h) | cases hs
  | .view a b c d, e, u, hs, h => by cases e <;> simp only [Sub] at hs <;> first | (simp [VRel]; done) | (rw [← hs]; exact h) | cases hs
  | .fn a b c, e, u, hs, h => by cases e <;> simp only [Sub] at hs <;> first | (simp [VRel]; done) | (rw [← hs]; exact h) | cases hs
  | .mp a, e, u, hs, h => by cases e <;> simp only [Sub] at hs <;> first | (simp [VRel]; done) | (rw [← hs]; exact h) | cases hs
  | .dead, e, u, hs, h => by cases e <;> simp only [Sub] at hs <;> first | (simp [VRel]; done) | (rw [← hs]; exact h) | cases hs
theorem Subs.rel {G : Gh} {w : World} : ∀ {l r : List D} {us : List Value}, Subs l r → VsRel G w l us → VsRel G w r us
  | [], r, us, hs, h => by simp only [Subs] at hs; subst hs; exact h
  | d :: l, r, us, hs, h => by
    simp only [Subs] at hs
    obtain ⟨e, r', rfl, h1, h2⟩ := hs
    simp only [VsRel] at h ⊢
    obtain ⟨u, us', rfl, g1, g2⟩ := h
    exact ⟨u, us', rfl, Sub.rel h1 g1, Subs.rel h2 g2⟩
theorem Subs.row {G : Gh} {w : World} {b S : Nat} : ∀ {l r : List D} {off : Nat}, Subs l r → RowAt G w b S l off → RowAt G w b S r off
  | [], r, off, hs, h => by simp only [Subs] at hs; subst hs; exact h
  | d :: l, r, off, hs, h => by
    simp only [Subs] at hs
    obtain ⟨e, r', rfl, h1, h2⟩ := hs
    simp only [RowAt] at h ⊢
    obtain ⟨⟨u, g1, g2, g3⟩, g4⟩ := h
    exact ⟨⟨u, Sub.rel h1 g1, g2, g3⟩, Subs.row h2 g4⟩
end

theorem Subs.refl : ∀ l : List D, (∀ d ∈ l, Sub d d) → Subs l l
  | [], _ => by simp [Subs]
  | d :: l, h => by simp only [Subs]; exact ⟨d, l, rfl, h d (by simp), Subs.refl l fun e he => h e (by simp [he])⟩

mutual
theorem Sub.refl : ∀ d : D, Sub d d
  | .v x => by simp [Sub]
  | .agg l => by simp only [Sub]; exact Subs.refl' l
  | .tup l => by simp only [Sub]; exact Subs.refl' l
  | .sl S l => by simp only [Sub, true_and]; exact Subs.refl' l
  | .pt d => by simp [Sub]
  | .ref .. => by simp [Sub]
  | .own .. => by simp [Sub]
  | .view .. => by simp [Sub]
  | .fn .. => by simp [Sub]
  | .mp .. => by simp [Sub]
  | .dead => by simp [Sub]
theorem Subs.refl' : ∀ l : List D, Subs l l
  | [] => by simp [Subs]
  | d :: l => by simp only [Subs]; exact ⟨d, l, rfl, Sub.refl d, Subs.refl' l⟩
end

section
variable {P : Program} {N : Nat}

/-- Slots may be told with less. -/
theorem T.sub {c : C} {K : Exit → St → Prop} {s : St} (t' : List D) (hs : Subs s.t t') (h : T P N c K ⟨t', s.m⟩) : T P N c K s :=
  T.ghost (s' := ⟨t', s.m⟩) (fun G w _ hN hr => ⟨G, ⟨hs.rel hr.t, hr.inv, hr.defers⟩, StepN.refl _ _ _ hN⟩) h

/-- A nil slice in slot i is an empty list of one's own. -/
theorem T.adopt {c : C} {K : Exit → St → Prop} {s : St} (i S : Nat) (hi : s.t[i]? = some (.v (.slice none 0 0))) (h : T P N c K ⟨s.t.set i (.own s.m.length 0), s.m ++ [.live S 0 []]⟩) : T P N c K s := by
  refine T.ghost (fun G w a hN hr => ?_) h
  have hadd := add_good (w' := w) hr.inv none S 0 0 (.live S 0 []) rfl rfl rfl rfl (Nat.le_refl _) (fun _ _ => rfl) (fun k h => by cases h)
    ⟨by simp [Gh.add], by simp [Gh.add], by simp [Gh.add], by simp, .inl ⟨by simp [Gh.add], by simp [Gh.add]⟩⟩
  refine ⟨_, ⟨?_, hadd.1, hr.defers⟩, hadd.2.toN hN⟩
  have hx := VsRel.get i hr.t
  rw [List.getD_eq_getElem?_getD, hi] at hx
  simp only [Option.getD_some, VRel] at hx
  have hset := VsRel.set (d := .own s.m.length 0) (x := .slice none 0 0) (own_newB (s := s) (b := none) (S := S) (N := 0) (C := 0) (w' := w) hr.inv.n) i (hr.t.mono hadd.2.le)
  have hself : a.tmps.toList.set i (.slice none 0 0) = a.tmps.toList := by
    rw [← hx]
    apply List.ext_getElem?
    intro j
    rw [List.getElem?_set]
    split
    · rename_i hij
      subst hij
      split
      · rename_i hlt; simp [List.getElem?_eq_getElem hlt]
      · rename_i hlt; rw [List.getElem?_eq_none (by omega)]
    · rfl
  rwa [hself] at hset

mutual
/-- Resource id holds the list l and is let be. -/
def fz (id ver S : Nat) (l : List D) : D → D
  | .agg r => .agg (fzs id ver S l r)
  | .tup r => .tup (fzs id ver S l r)
  | .own i v => if i = id ∧ v = ver then .sl S l else .own i v
  | .view i v lo n => if i = id ∧ v = ver ∧ lo + n ≤ l.length then .sl S ((l.drop lo).take n) else .view i v lo n
  | .fn f a b => .fn f (fzs id ver S l a) (fzs id ver S l b)
  | d => d
def fzs (id ver S : Nat) (l : List D) : List D → List D
  | [] => []
  | d :: r => fz id ver S l d :: fzs id ver S l r
end

def fzE (id ver S : Nat) (l : List D) : Ent → Ent
  | .live S' v r => .live S' v (fzs id ver S l r)
  | .mp es => .mp es
  | .gone => .gone

theorem fzs_map (id ver S : Nat) (l : List D) : ∀ r, fzs id ver S l r = r.map (fz id ver S l)
  | [] => rfl
  | d :: r => by simp [fzs, fzs_map id ver S l r]

theorem Le.fz {G : Gh} {w : World} (id : Nat) : Le G w (G.fz id) w := by
  refine ⟨fun _ h => .inl h, fun _ _ => rfl, Nat.le_refl _, fun i _ => ?_⟩
  by_cases h : i = id
  · exact .inr (by simp [Gh.fz, h])
  · exact .inl (by simp [Gh.fz, h])

mutual
theorem fz_rel {G : Gh} {w : World} {m : List Ent} (hi : Inv G w m) {id ver S : Nat} {l : List D} (hm : m[id]? = some (.live S ver l)) : ∀ {d : D} {u : Value}, VRel G w d u → VRel (G.fz id) w (fz id ver S l d) u
  | .v x, u, h => h.mono (Le.fz id)
  | .sl S l, u, h => h.mono (Le.fz id)
  | .pt d, u, h => h.mono (Le.fz id)
  | .ref .., u, h => h.mono (Le.fz id)
  | .mp .., u, h => h.mono (Le.fz id)
  | .dead, u, h => h.mono (Le.fz id)
  | .agg r, u, h => by
    simp only [fz, VRel] at h ⊢
    obtain ⟨cs, rfl, h, h1⟩ := h
    exact ⟨cs, rfl, fzs_rel hi hm h, h1⟩
  | .tup r, u, h => by
    simp only [fz, VRel] at h ⊢
    obtain ⟨cs, rfl, h⟩ := h
    exact ⟨cs, rfl, fzs_rel hi hm h⟩
  | .fn f a b, u, h => by
    simp only [fz, VRel] at h ⊢
    obtain ⟨fs, cs, rfl, h1, h2⟩ := h
    exact ⟨fs, cs, rfl, fzs_rel hi hm h1, fzs_rel hi hm h2⟩
  | .own i v, u, h => by
    simp only [fz]
    split
    · rename_i hc
      obtain ⟨rfl, rfl⟩ := hc
      simp only [VRel] at h ⊢
      obtain ⟨p, n, c, rfl, hid, hver, hx⟩ := h
      obtain ⟨a1, a2, a3, a4, a5⟩ := hi.ent _ _ hm
      obtain ⟨rfl, rfl, rfl⟩ := hx a1
      refine ⟨_, _, _, rfl, a3, by rw [a3]; exact a4, ?_⟩
      rcases a5 with a5 | ⟨b', cs, T, hb', hF, hblk, hsz, hrow⟩
      · exact .inl (List.eq_nil_of_length_eq_zero (by omega))
      · exact .inr ⟨b', 0, by rw [hb']; rfl, .inr hb', hrow.mono (Le.fz _) rfl⟩
    · exact h.mono (Le.fz id)
  | .view i v lo n, u, h => by
    simp only [fz]
    split
    · rename_i hc
      obtain ⟨rfl, rfl, hle⟩ := hc
      simp only [VRel] at h ⊢
      obtain ⟨p, c, rfl, hnc, hid, hver, hx⟩ := h
      obtain ⟨a1, a2, a3, a4, a5⟩ := hi.ent _ _ hm
      have hlen : ((l.drop lo).take n).length = n := by rw [List.length_take, List.length_drop]; omega
      refine ⟨p, n, c, rfl, hlen.symm, hnc, ?_⟩
      rcases hx a1 with rfl | ⟨b, hb, rfl⟩
      · exact .inl (by simp)
      · rcases a5 with a5 | ⟨b', cs, T, hb', hF, hblk, hsz, hrow⟩
        · rw [a5.1] at hb; cases hb
        · rw [hb] at hb'; injection hb' with hb'; subst hb'
          refine .inr ⟨b, lo * S, by rw [a2], .inr hb, ?_⟩
          have := rowAt_take (rowAt_drop (hrow.mono (Le.fz i) rfl) lo) n
          rwa [Nat.zero_add] at this
    · exact h.mono (Le.fz id)
theorem fzs_rel {G : Gh} {w : World} {m : List Ent} (hi : Inv G w m) {id ver S : Nat} {l : List D} (hm : m[id]? = some (.live S ver l)) : ∀ {r : List D} {us : List Value}, VsRel G w r us → VsRel (G.fz id) w (fzs id ver S l r) us
  | [], us, h => by simpa [fzs, VsRel] using h
  | d :: r, us, h => by
    simp only [fzs, VsRel] at h ⊢
    obtain ⟨u, us', rfl, h1, h2⟩ := h
    exact ⟨u, us', rfl, fz_rel hi hm h1, fzs_rel hi hm h2⟩
end

/-- Resource id is let be: whatever names it names what it holds. -/
theorem T.freeze {c : C} {K : Exit → St → Prop} {s : St} (id ver S : Nat) (l : List D) (hm : s.m[id]? = some (.live S ver l)) (h : T P N c K ⟨fzs id ver S l s.t, (s.m.map (fzE id ver S l)).set id .gone⟩) : T P N c K s := by
  refine T.ghost (fun G w a hN hr => ?_) h
  have hi := hr.inv
  have hle := Le.fz (G := G) (w := w) id
  have hget : ∀ i e, ((s.m.map (fzE id ver S l)).set id .gone)[i]? = some e → (i = id ∧ e = .gone) ∨ (i ≠ id ∧ ∃ e', s.m[i]? = some e' ∧ e = fzE id ver S l e') := by
    intro i e he
    rw [List.getElem?_set] at he
    split at he
    · rename_i hij
      subst hij
      split at he
      · injection he with he; exact .inl ⟨rfl, he.symm⟩
      · cases he
    · rename_i hij
      rw [List.getElem?_map] at he
      cases hs : s.m[i]? with
      | none => rw [hs] at he; cases he
      | some e' => rw [hs] at he; injection he with he; exact .inr ⟨fun h => hij h.symm, e', rfl, he.symm⟩
  have hlive : ∀ e, (fzE id ver S l e).isLive = e.isLive := fun e => by cases e <;> rfl
  have hinv : Inv (G.fz id) w ((s.m.map (fzE id ver S l)).set id .gone) := by
    refine ⟨by simp [Gh.fz, hi.n], ?_, ?_, ?_⟩
    · rintro b (h | h)
      · exact hi.F b h
      · exact ((hi.ent _ _ hm).lt rfl h).1
    · intro i e he
      rcases hget i e he with ⟨rfl, rfl⟩ | ⟨hne, e', he', rfl⟩
      · trivial
      · have hent := hi.ent i e' he'
        have hF : ∀ b, G.B i = some b → e'.isLive = true → (G.fz id).F b → G.F b := by
          rintro b hb hl (h | h)
          · exact h
          · exact (hne (hi.apart i id e' _ he' hm hl rfl b hb h)).elim
        have := hent.mono hle (by simp [Gh.fz, hne]) (fun _ _ => rfl) hF
        cases e' with
        | live S' v r =>
          obtain ⟨a1, a2, a3, a4, a5⟩ := this
          refine ⟨a1, a2, by rw [fzs_map, List.length_map]; exact a3, by rw [fzs_map, List.length_map]; exact a4, ?_⟩
          rcases a5 with a5 | ⟨b', cs, T, hb', hF', hblk, hsz, hrow⟩
          · exact .inl a5
          · obtain ⟨-, -, -, -, a5'⟩ := hent
            rcases a5' with a5' | ⟨b'', cs', T', hb'', hF'', hblk', hsz', hrow'⟩
            · have : (G.fz id).B i = G.B i := rfl
              rw [this, a5'.1] at hb'; cases hb'
            · have : (G.fz id).B i = G.B i := rfl
              rw [this, hb''] at hb'; injection hb' with hb'; subst hb'
              refine .inr ⟨b'', cs, T, hb'', hF', hblk, hsz, ?_⟩
              have hmap := row_map_rel (f := fz id ver S l) (fun d u h => fz_rel hi hm h) hrow'
              rw [fzs_map]
              exact hmap
        | mp es => exact this
        | gone => trivial
    · intro i j e e' he he' hl hl' b hb hb'
      rcases hget i e he with ⟨rfl, rfl⟩ | ⟨hne, x, hx, rfl⟩
      · cases hl
      · rcases hget j e' he' with ⟨rfl, rfl⟩ | ⟨hne', y, hy, rfl⟩
        · cases hl'
        · rw [hlive] at hl hl'
          exact hi.apart i j x y hx hy hl hl' b hb hb'
  refine ⟨G.fz id, ⟨fzs_rel hi hm hr.t, hinv, hr.defers⟩, Step.toN ⟨hle, rfl, rfl, rfl, Nat.le_refl _, fun _ _ _ => rfl, ?_, ?_⟩ hN⟩
  · rintro b hb (h | h)
    · exact .inl h
    · exact .inr ⟨id, _, hm, rfl, h⟩
  · rintro b hb ⟨i, e, he, hl, hB⟩
    rcases hget i e he with ⟨rfl, rfl⟩ | ⟨hne, x, hx, rfl⟩
    · cases hl
    · exact ⟨i, x, hx, by rw [hlive] at hl; exact hl, hB⟩

mutual
/-- The tree names resources below k alone. -/
def below (k : Nat) : D → Bool
  | .agg l => belows k l
  | .tup l => belows k l
  | .sl _ l => belows k l
  | .pt d => below k d
  | .ref i _ _ _ => decide (i < k)
  | .own i _ => decide (i < k)
  | .view i _ _ _ => decide (i < k)
  | .fn _ a b => belows k a && belows k b
  | .mp i => decide (i < k)
  | _ => true
def belows (k : Nat) : List D → Bool
  | [] => true
  | d :: l => below k d && belows k l
end

mutual
theorem below_free (k : Nat) : ∀ d : D, idfree d = true → below k d = true
  | .v _, _ => by simp [below]
  | .agg l, h => by simp only [below]; exact belows_free k l (by simpa [idfree] using h)
  | .tup l, h => by simp only [below]; exact belows_free k l (by simpa [idfree] using h)
  | .sl _ l, h => by simp only [below]; exact belows_free k l (by simpa [idfree] using h)
  | .pt d, h => by simp only [below]; exact below_free k d (by simpa [idfree] using h)
  | .fn _ a b, h => by
    simp only [idfree, Bool.and_eq_true] at h
    simp only [below, Bool.and_eq_true]
    exact ⟨belows_free k a h.1, belows_free k b h.2⟩
  | .dead, _ => by simp [below]
  | .ref .., h => by simp [idfree] at h
  | .own .., h => by simp [idfree] at h
  | .view .., h => by simp [idfree] at h
  | .mp _, h => by simp [idfree] at h
theorem belows_free (k : Nat) : ∀ l : List D, idfrees l = true → belows k l = true
  | [], _ => by simp [belows]
  | d :: l, h => by
    simp only [idfrees, Bool.and_eq_true] at h
    simp only [belows, Bool.and_eq_true]
    exact ⟨below_free k d h.1, belows_free k l h.2⟩
end

def Ent.below (k : Nat) : Ent → Bool
  | .live _ _ l => belows k l
  | .mp es => es.all fun e => Tm.below k e.2
  | .gone => true

/-- The ghost of the first k resources. -/
def Gh.trim (G : Gh) (k : Nat) : Gh := { G with n := k }

mutual
theorem VRel.trim {G : Gh} {w : World} {k : Nat} : ∀ {d : D} {u : Value}, below k d = true → VRel G w d u → VRel (G.trim k) w d u
  | .v x, u, _, h => by simpa [VRel] using h
  | .agg l, u, hb, h => by
    simp only [VRel, below] at h hb ⊢
    obtain ⟨cs, rfl, h, h1⟩ := h
    exact ⟨cs, rfl, VsRel.trim hb h, h1⟩
  | .tup l, u, hb, h => by
    simp only [VRel, below] at h hb ⊢
    obtain ⟨cs, rfl, h⟩ := h
    exact ⟨cs, rfl, VsRel.trim hb h⟩
  | .sl S l, u, hb, h => by
    simp only [VRel, below] at h hb ⊢
    obtain ⟨a, n, cap, rfl, hn, hc, h⟩ := h
    refine ⟨a, n, cap, rfl, hn, hc, ?_⟩
    rcases h with h | ⟨b, off, rfl, hF, hr⟩
    · exact .inl h
    · exact .inr ⟨b, off, rfl, hF, RowAt.trim hb hr⟩
  | .pt d, u, hb, h => by
    simp only [VRel, below] at h hb ⊢
    obtain ⟨b, off, x, rfl, hF, hd, hh⟩ := h
    exact ⟨b, off, x, rfl, hF, VRel.trim hb hd, hh⟩
  | .ref .., u, hb, h => by
    simp only [VRel, below, decide_eq_true_eq] at h hb ⊢
    obtain ⟨a, hu, _, h⟩ := h
    exact ⟨a, hu, hb, h⟩
  | .own .., u, hb, h => by
    simp only [VRel, below, decide_eq_true_eq] at h hb ⊢
    obtain ⟨a, n, c, hu, _, h⟩ := h
    exact ⟨a, n, c, hu, hb, h⟩
  | .view .., u, hb, h => by
    simp only [VRel, below, decide_eq_true_eq] at h hb ⊢
    obtain ⟨a, c, hu, hn, _, h⟩ := h
    exact ⟨a, c, hu, hn, hb, h⟩
  | .mp _, u, hb, h => by
    simp only [VRel, below, decide_eq_true_eq] at h hb ⊢
    obtain ⟨b, hu, _, h⟩ := h
    exact ⟨b, hu, hb, h⟩
  | .fn f first caps, u, hb, h => by
    simp only [VRel, below, Bool.and_eq_true] at h hb ⊢
    obtain ⟨fs, cs, rfl, h1, h2⟩ := h
    exact ⟨fs, cs, rfl, VsRel.trim hb.1 h1, VsRel.trim hb.2 h2⟩
  | .dead, u, _, h => by simp [VRel]
theorem VsRel.trim {G : Gh} {w : World} {k : Nat} : ∀ {l : List D} {us : List Value}, belows k l = true → VsRel G w l us → VsRel (G.trim k) w l us
  | [], us, _, h => by simpa [VsRel] using h
  | d :: l, us, hb, h => by
    simp only [VsRel, belows, Bool.and_eq_true] at h hb ⊢
    obtain ⟨u, r, rfl, h1, h2⟩ := h
    exact ⟨u, r, rfl, VRel.trim hb.1 h1, VsRel.trim hb.2 h2⟩
theorem RowAt.trim {G : Gh} {w : World} {k b S : Nat} : ∀ {l : List D} {off : Nat}, belows k l = true → RowAt G w b S l off → RowAt (G.trim k) w b S l off
  | [], off, _, h => by simp [RowAt]
  | d :: l, off, hb, h => by
    simp only [RowAt, belows, Bool.and_eq_true] at h hb ⊢
    obtain ⟨⟨u, h1, h2, h3⟩, h4⟩ := h
    exact ⟨⟨u, VRel.trim hb.1 h1, h2, h3⟩, RowAt.trim hb.2 h4⟩
end

theorem MapRel.trim {G : Gh} {w : World} {k : Nat} : ∀ {l : List (Value × D)} {es : List MapEntry}, (l.all fun e => below k e.2) = true → MapRel G w l es → MapRel (G.trim k) w l es
  | [], es, _, h => h
  | (q, d) :: l, es, hb, h => by
    simp only [List.all_cons, Bool.and_eq_true] at hb
    obtain ⟨e, r, h0, h1, h2, h3⟩ := h
    exact ⟨e, r, h0, h1, h2.trim hb.1, h3.trim hb.2⟩

/-- Resources that nobody names any more are forgotten. -/
theorem T.trim {c : C} {K : Exit → St → Prop} {s : St} (k : Nat) (hN : N ≤ k) (hk : k ≤ s.m.length) (ht : belows k s.t = true) (hm : (s.m.take k).all (Ent.below k) = true) (h : T P N c K ⟨s.t, s.m.take k⟩) : T P N c K s := by
  refine T.ghost (fun G w a hN' hr => ?_) h
  have hi := hr.inv
  have hget : ∀ (i : Nat) e, (s.m.take k)[i]? = some e → i < k ∧ s.m[i]? = some e := by
    intro i e he
    rw [List.getElem?_take] at he
    split at he
    · rename_i hik; exact ⟨hik, he⟩
    · cases he
  have hinv : Inv (G.trim k) w (s.m.take k) := by
    refine ⟨by simp [Gh.trim]; omega, hi.F, fun i e he => ?_, fun i j e e' he he' hl hl' b hb hb' => hi.apart i j e e' (hget i e he).2 (hget j e' he').2 hl hl' b hb hb'⟩
    have hbe : e.below k = true := List.all_eq_true.1 hm e (List.mem_of_getElem? he)
    have hent := hi.ent i e (hget i e he).2
    cases e with
    | live S ver l =>
      obtain ⟨a1, a2, a3, a4, a5⟩ := hent
      refine ⟨a1, a2, a3, a4, ?_⟩
      rcases a5 with a5 | ⟨b', cs, T, hb', hF, hblk, hsz, hrow⟩
      · exact .inl a5
      · exact .inr ⟨b', cs, T, hb', hF, hblk, hsz, hrow.trim (by simpa [Ent.below] using hbe)⟩
    | mp es =>
      obtain ⟨a1, b, en, cl, a2, a3, a4, a5⟩ := hent
      exact ⟨a1, b, en, cl, a2, a3, a4, a5.trim (by simpa [Ent.below] using hbe)⟩
    | gone => trivial
  refine ⟨G.trim k, ⟨hr.t.trim ht, hinv, hr.defers⟩, ⟨fun _ h => h, fun _ _ => rfl, hN, fun i hi' => .inl ⟨rfl, rfl, rfl, rfl, rfl⟩, rfl, rfl, rfl, Nat.le_refl _, fun _ _ _ => rfl, fun _ _ h => .inl h, ?_⟩⟩
  rintro b hb ⟨i, e, he, hl, hB⟩
  exact ⟨i, e, (hget i e he).2, hl, hB⟩

/-- A loop: at each round's head the state reads as S of something good. -/
theorem T.loopS {x : C} {K : Exit → St → Prop} {s : St} {X : Type} (S : X → St) (good : X → Prop) (μ : X → Nat) (x₀ : X) (h0 : good x₀) (ht : Subs s.t (S x₀).t) (hm : s.m = (S x₀).m)
    (hb : ∀ y, good y → N ≤ (S y).m.length ∧ belows (S y).m.length (S y).t = true ∧ (S y).m.all (Ent.below (S y).m.length) = true)
    (round : ∀ y, good y → T P N x (fun e s' => match e with | .normal => ∃ z, good z ∧ μ z < μ y ∧ Subs s'.t (S z).t ∧ ∃ g, s'.m = (S z).m ++ g | e => K e s') (S y)) : T P N (.loop x) K s := by
  refine T.loopI (J := fun y s' => good y ∧ Subs s'.t (S y).t ∧ ∃ g, s'.m = (S y).m ++ g) μ x₀ ⟨h0, ht, [], by simp [hm]⟩ ?_
  rintro y s1 ⟨hg, hs1, g, hm1⟩
  obtain ⟨b1, b2, b3⟩ := hb y hg
  refine T.sub (S y).t hs1 ?_
  refine T.trim (S y).m.length b1 (by simp [hm1]) b2 (by simpa [hm1] using b3) ?_
  have hst : (⟨(S y).t, s1.m.take (S y).m.length⟩ : St) = S y := by
    rw [hm1, List.take_left]
  simp only [hst]
  refine (round y hg).mono ?_
  intro e s' hK
  cases e with
  | normal => obtain ⟨z, k1, k2, k3, k4⟩ := hK; exact ⟨z, ⟨k1, k3, k4⟩, k2⟩
  | _ => exact hK
end
end Go.Tm
