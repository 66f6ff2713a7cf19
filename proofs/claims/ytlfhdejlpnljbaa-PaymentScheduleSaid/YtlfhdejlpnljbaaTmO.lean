/-
  Contracts without resources: what a call hands back is a tree of memory that never changes again.
-/
import Derived.Test.YtlfhdejlpnljbaaTmN
set_option linter.unusedSimpArgs false
set_option linter.unusedVariables false
namespace Go.Tm
open Go.RowKit (Below)

/-- What a tree without resources needs of the ghost: its blocks. -/
structure SubF (G : Gh) (w : World) (G' : Gh) (w' : World) : Prop where
  F : ∀ b, G.F b → G'.F b
  heap : ∀ b, G.F b → w'.heap[b]? = w.heap[b]?

mutual
theorem VRel.free {G G' : Gh} {w w' : World} (hle : SubF G w G' w') : ∀ {d : D} {u : Value}, idfree d = true → VRel G w d u → VRel G' w' d u
  | .v x, u, _, h => by simpa [VRel] using h
  | .agg l, u, hf, h => by
    simp only [VRel, idfree] at h hf ⊢
    obtain ⟨cs, rfl, h, h1⟩ := h
    exact ⟨cs, rfl, VsRel.free hle hf h, h1⟩
  | .tup l, u, hf, h => by
    simp only [VRel, idfree] at h hf ⊢
    obtain ⟨cs, rfl, h⟩ := h
    exact ⟨cs, rfl, VsRel.free hle hf h⟩
  | .sl S l, u, hf, h => by
    simp only [VRel, idfree] at h hf ⊢
    obtain ⟨a, n, cap, rfl, hn, hc, h⟩ := h
    refine ⟨a, n, cap, rfl, hn, hc, ?_⟩
    rcases h with h | ⟨b, off, rfl, hF, hr⟩
    · exact .inl h
    · exact .inr ⟨b, off, rfl, hle.F b hF, RowAt.free hle (hle.heap b hF) hf hr⟩
  | .pt d, u, hf, h => by
    simp only [VRel, idfree] at h hf ⊢
    obtain ⟨b, off, x, rfl, hF, hd, hh⟩ := h
    exact ⟨b, off, x, rfl, hle.F b hF, VRel.free hle hf hd, hh.mono (hle.heap b hF)⟩
  | .fn f first caps, u, hf, h => by
    simp only [VRel, idfree, Bool.and_eq_true] at h hf ⊢
    obtain ⟨fs, cs, rfl, h1, h2⟩ := h
    exact ⟨fs, cs, rfl, VsRel.free hle hf.1 h1, VsRel.free hle hf.2 h2⟩
  | .dead, u, _, h => by simp [VRel]
  | .ref .., _, hf, _ => by simp [idfree] at hf
  | .own .., _, hf, _ => by simp [idfree] at hf
  | .view .., _, hf, _ => by simp [idfree] at hf
  | .mp _, _, hf, _ => by simp [idfree] at hf
theorem VsRel.free {G G' : Gh} {w w' : World} (hle : SubF G w G' w') : ∀ {l : List D} {us : List Value}, idfrees l = true → VsRel G w l us → VsRel G' w' l us
  | [], us, _, h => by simpa [VsRel] using h
  | d :: l, us, hf, h => by
    simp only [VsRel, idfrees, Bool.and_eq_true] at h hf ⊢
    obtain ⟨u, r, rfl, h1, h2⟩ := h
    exact ⟨u, r, rfl, VRel.free hle hf.1 h1, VsRel.free hle hf.2 h2⟩
theorem RowAt.free {G G' : Gh} {w w' : World} (hle : SubF G w G' w') {b S : Nat} (hb : w'.heap[b]? = w.heap[b]?) :
    ∀ {l : List D} {off : Nat}, idfrees l = true → RowAt G w b S l off → RowAt G' w' b S l off
  | [], off, _, h => by simp [RowAt]
  | d :: l, off, hf, h => by
    simp only [RowAt, idfrees, Bool.and_eq_true] at h hf ⊢
    obtain ⟨⟨u, h1, h2, h3⟩, h4⟩ := h
    exact ⟨⟨u, VRel.free hle hf.1 h1, h2, h3.mono hb⟩, RowAt.free hle hb hf.2 h4⟩
end

/-- All that is there is let be from now on: a resource's tree becomes what it holds. -/
def froz : Nat → List Ent → D → D
  | 0, _, _ => .dead
  | k + 1, m, d =>
    match d with
    | .agg l => .agg (l.map (froz k m))
    | .tup l => .tup (l.map (froz k m))
    | .sl S l => if idfrees l then d else .sl S (l.map (froz k m))
    | .pt d => .pt (froz k m d)
    | .own id ver =>
      match m[id]? with
      | some (.live S ver' l) => if ver' = ver then .sl S (if idfrees l then l else l.map (froz k m)) else .dead
      | _ => .dead
    | .view id ver lo n =>
      match m[id]? with
      | some (.live S ver' l) => if ver' = ver ∧ lo + n ≤ l.length then .sl S (((if idfrees l then l else l.map (froz k m)).drop lo).take n) else .dead
      | _ => .dead
    | .fn f a b => .fn f (a.map (froz k m)) (b.map (froz k m))
    | .v x => .v x
    | _ => .dead

theorem idfrees_map {f : D → D} (h : ∀ d, idfree (f d) = true) : ∀ l : List D, idfrees (l.map f) = true
  | [] => rfl
  | d :: l => by simp [idfrees, h d, idfrees_map h l]

theorem idfrees_iff : ∀ {l : List D}, idfrees l = true ↔ ∀ d ∈ l, idfree d = true
  | [] => by simp [idfrees]
  | d :: l => by simp [idfrees, idfrees_iff (l := l)]

theorem froz_free : ∀ (k : Nat) (m : List Ent) (d : D), idfree (froz k m d) = true
  | 0, m, d => rfl
  | k + 1, m, d => by
    have ih := idfrees_map (froz_free k m)
    cases d with
    | agg l => simpa [froz, idfree] using ih l
    | tup l => simpa [froz, idfree] using ih l
    | sl S l =>
      simp only [froz]
      split
      · rename_i h; simpa [idfree] using h
      · simpa [idfree] using ih l
    | pt d => simpa [froz, idfree] using froz_free k m d
    | own id ver =>
      simp only [froz]
      split
      · split
        · simp only [idfree]
          split
          · rename_i h; exact h
          · exact ih _
        · rfl
      · rfl
    | view id ver lo n =>
      simp only [froz]
      split
      · split
        · simp only [idfree]
          rename_i l _ _
          have : idfrees (if idfrees l = true then l else l.map (froz k m)) = true := by
            split
            · rename_i h; exact h
            · exact ih _
          rw [idfrees_iff] at this ⊢
          exact fun d hd => this d (List.mem_of_mem_drop (List.mem_of_mem_take hd))
        · rfl
      · rfl
    | fn f a b => simp [froz, idfree, ih a, ih b]
    | _ => rfl

/-- The ghost in which all resources are let be. -/
def Gh.froz (G : Gh) (m : List Ent) : Gh := { G with F := fun b => G.F b ∨ Owned G m b }

theorem frozen_mono {G : Gh} {w : World} {m : List Ent} : SubF G w (G.froz m) w := ⟨fun _ h => .inl h, fun _ _ => rfl⟩

theorem vs_map_rel {G : Gh} {w : World} {G' : Gh} {f : D → D} (h : ∀ d u, VRel G w d u → VRel G' w (f d) u) : ∀ {l : List D} {us : List Value}, VsRel G w l us → VsRel G' w (l.map f) us
  | [], us, hv => by simpa [VsRel] using hv
  | d :: l, us, hv => by
    simp only [VsRel, List.map_cons] at hv ⊢
    obtain ⟨u, r, rfl, h1, h2⟩ := hv
    exact ⟨u, r, rfl, h d u h1, vs_map_rel h h2⟩

theorem row_map_rel {G : Gh} {w : World} {G' : Gh} {f : D → D} (h : ∀ d u, VRel G w d u → VRel G' w (f d) u) {b S : Nat} : ∀ {l : List D} {off : Nat}, RowAt G w b S l off → RowAt G' w b S (l.map f) off
  | [], off, hv => by simp [RowAt]
  | d :: l, off, hv => by
    simp only [RowAt, List.map_cons] at hv ⊢
    obtain ⟨⟨u, h1, h2, h3⟩, h4⟩ := hv
    exact ⟨⟨u, h d u h1, h2, h3⟩, row_map_rel h h4⟩

theorem froz_rel {G : Gh} {w : World} {m : List Ent} (hi : Inv G w m) : ∀ (k : Nat) (d : D) (u : Value), VRel G w d u → VRel (G.froz m) w (froz k m d) u
  | 0, d, u, _ => by simp [froz, VRel]
  | k + 1, d, u, hv => by
    have ih := froz_rel hi k
    cases d with
    | v x => simpa [froz, VRel] using hv
    | agg l =>
      simp only [froz, VRel] at hv ⊢
      obtain ⟨cs, rfl, h1, h2⟩ := hv
      exact ⟨cs, rfl, vs_map_rel ih h1, h2⟩
    | tup l =>
      simp only [froz, VRel] at hv ⊢
      obtain ⟨cs, rfl, h1⟩ := hv
      exact ⟨cs, rfl, vs_map_rel ih h1⟩
    | sl S l =>
      simp only [froz]
      split
      · rename_i hf
        exact hv.free frozen_mono (by simpa [idfree] using hf)
      · simp only [VRel] at hv ⊢
        obtain ⟨a, n, cap, rfl, hn, hc, h⟩ := hv
        refine ⟨a, n, cap, rfl, by simpa using hn, hc, ?_⟩
        rcases h with h | ⟨b, off, rfl, hF, hr⟩
        · exact .inl (by simp [h])
        · exact .inr ⟨b, off, rfl, .inl hF, row_map_rel ih hr⟩
    | pt d =>
      simp only [froz, VRel] at hv ⊢
      obtain ⟨b, off, x, rfl, hF, hd, hh⟩ := hv
      exact ⟨b, off, x, rfl, .inl hF, ih d x hd, hh⟩
    | own id ver =>
      simp only [froz]
      split
      · rename_i S ver' l hm
        split
        · rename_i hvr
          subst hvr
          simp only [VRel] at hv ⊢
          obtain ⟨p, n, c, rfl, hid, hver, hx⟩ := hv
          obtain ⟨a1, a2, a3, a4, a5⟩ := hi.ent _ _ hm
          obtain ⟨rfl, rfl, rfl⟩ := hx a1
          have hlen : (if idfrees l = true then l else l.map (froz k m)).length = l.length := by split <;> simp
          refine ⟨_, _, _, rfl, by rw [hlen]; exact a3, by rw [a3]; exact a4, ?_⟩
          · rcases a5 with a5 | ⟨b', cs, T, hb', hF, hblk, hsz, hrow⟩
            · refine .inl (List.eq_nil_of_length_eq_zero ?_)
              rw [hlen]; omega
            · refine .inr ⟨b', 0, by rw [hb']; rfl, .inr ⟨id, _, hm, rfl, hb'⟩, ?_⟩
              split
              · rename_i hf; exact hrow.free frozen_mono rfl hf
              · exact row_map_rel ih hrow
        · simp [VRel]
      · simp [VRel]
    | view id ver lo n =>
      simp only [froz]
      split
      · rename_i S ver' l hm
        split
        · rename_i hvr
          obtain ⟨rfl, hle⟩ := hvr
          simp only [VRel] at hv ⊢
          obtain ⟨p, c, rfl, hnc, hid, hver, hx⟩ := hv
          obtain ⟨a1, a2, a3, a4, a5⟩ := hi.ent _ _ hm
          have hlen : (if idfrees l = true then l else l.map (froz k m)).length = l.length := by split <;> simp
          have hlen2 : (((if idfrees l = true then l else l.map (froz k m)).drop lo).take n).length = n := by
            rw [List.length_take, List.length_drop, hlen]; omega
          refine ⟨p, n, c, rfl, hlen2.symm, hnc, ?_⟩
          · rcases hx a1 with rfl | ⟨b, hb, rfl⟩
            · exact .inl (by simp)
            · rcases a5 with a5 | ⟨b', cs, T, hb', hF, hblk, hsz, hrow⟩
              · rw [a5.1] at hb; cases hb
              · rw [hb] at hb'; injection hb' with hb'; subst hb'
                refine .inr ⟨b, lo * S, by rw [a2], .inr ⟨id, _, hm, rfl, hb⟩, ?_⟩
                have : RowAt (G.froz m) w b S (if idfrees l = true then l else l.map (froz k m)) 0 := by
                  split
                  · rename_i hf; exact hrow.free frozen_mono rfl hf
                  · exact row_map_rel ih hrow
                have := rowAt_take (rowAt_drop this lo) n
                rwa [Nat.zero_add] at this
        · simp [VRel]
      · simp [VRel]
    | fn f a b =>
      simp only [froz, VRel] at hv ⊢
      obtain ⟨fs, cs, rfl, h1, h2⟩ := hv
      exact ⟨fs, cs, rfl, vs_map_rel ih h1, vs_map_rel ih h2⟩
    | _ => simp [froz, VRel]

/-- The ghost without resources. -/
def Gh.bare (F : Nat → Prop) : Gh := ⟨F, 0, fun _ => none, fun _ => 0, fun _ => 0, fun _ => 0, fun _ => 0⟩

theorem inv_bare {F : Nat → Prop} {w : World} (h : ∀ b, F b → b < w.heap.size) : Inv (Gh.bare F) w [] :=
  ⟨rfl, h, fun i e he => by simp at he, fun i j e e' he => by simp at he⟩

theorem owned_nil {G : Gh} {b : Nat} : ¬ Owned G [] b := fun ⟨i, e, he, _⟩ => by simp at he

/-- What a call without resources leaves of a caller's. -/
theorem back_good {G G' : Gh} {F : Nat → Prop} {w w' : World} {m m' : List Ent} (hi : Inv G w m) (hs : Step (Gh.bare F) w [] G' w' m') (hi' : Inv G' w' m') (hF : ∀ b, G.F b → F b) :
    (∀ b, b < w.heap.size → w'.heap[b]? = w.heap[b]?) ∧
    (Inv G w' m ∧ Step G w m G w' m) ∧
    ((∀ b, F b → G.F b) → Inv { G with F := fun b => G'.F b ∨ Owned G' m' b } w' m ∧ Step G w m { G with F := fun b => G'.F b ∨ Owned G' m' b } w' m) := by
  have hkeep : ∀ b, b < w.heap.size → w'.heap[b]? = w.heap[b]? := fun b hb => hs.keep b hb owned_nil
  have hold : ∀ i x, m[i]? = some x → x.isLive = true → ∀ k, G.B i = some k → k < w.heap.size := fun i x hx hl k hk => ((hi.ent i x hx).lt hl hk).1
  refine ⟨hkeep, ?_, fun hF' => ?_⟩
  · have hle : Le G w G w' := ⟨fun _ h => h, fun b hb => hkeep b (hi.F b hb), Nat.le_refl _, fun _ _ => .inl ⟨rfl, rfl, rfl, rfl, rfl⟩⟩
    refine ⟨⟨hi.n, fun b hb => Nat.lt_of_lt_of_le (hi.F b hb) hs.size, fun i e he => ?_, hi.apart⟩, ⟨hle, hs.os, hs.tape, hs.output, hs.size, fun b hb _ => hkeep b hb, fun _ _ h => .inl h, fun _ _ h => h⟩⟩
    by_cases hl : e.isLive = true
    · exact (hi.ent i e he).mono hle ⟨rfl, rfl, rfl, rfl, rfl⟩ (fun b hb => hkeep b (hold i e he hl b hb)) (fun _ _ _ h => h)
    · cases e with
      | gone => trivial
      | _ => simp [Ent.isLive] at hl
  · have hle : Le G w { G with F := fun b => G'.F b ∨ Owned G' m' b } w' := ⟨fun b h => .inl (hs.le.F b (hF b h)), fun b hb => hkeep b (hi.F b hb), Nat.le_refl _, fun _ _ => .inl ⟨rfl, rfl, rfl, rfl, rfl⟩⟩
    have hold' : ∀ b, b < w.heap.size → (G'.F b ∨ Owned G' m' b) → G.F b := by
      intro b hb h
      rcases h with h | h
      · rcases hs.newF b hb h with h | h
        · exact hF' b h
        · exact (owned_nil h).elim
      · exact (owned_nil (hs.newB b hb h)).elim
    refine ⟨⟨hi.n, ?_, fun i e he => ?_, hi.apart⟩, ⟨hle, hs.os, hs.tape, hs.output, hs.size, fun b hb _ => hkeep b hb, fun b hb h => .inl (hold' b hb h), fun _ _ h => h⟩⟩
    · rintro b (h | h)
      · exact hi'.F b h
      · exact (Owned.lt hi' h).1
    · by_cases hl : e.isLive = true
      · exact (hi.ent i e he).mono hle ⟨rfl, rfl, rfl, rfl, rfl⟩ (fun b hb => hkeep b (hold i e he hl b hb)) (fun b hb _ h => hold' b (hold i e he hl b hb) h)
      · cases e with
        | gone => trivial
        | _ => simp [Ent.isLive] at hl

/-- A contract of a function that takes and gives trees, at whatever resources. -/
theorem callP_of {P : Program} {f : FuncId} {ds : List D} {R : D → Prop} (k : Nat) (hf : idfrees ds = true) (h : CallT P f ds [] fun d m' => R (froz k m' d)) (m : List Ent) :
    CallT P f ds m fun d m' => (R d ∧ idfree d = true) ∧ m' = m := by
  refine ⟨h.1, fun G w vs hv hi => ?_⟩
  have h0 := h.2 (Gh.bare G.F) w vs (VsRel.free (G := G) (G' := Gh.bare G.F) ⟨fun _ h => h, fun _ _ => rfl⟩ hf hv) (inv_bare hi.F)
  refine h0.mono ?_
  rintro e w' ⟨v, d, m', G', rfl, hR, hvd, hi', hs⟩
  obtain ⟨-, -, h3⟩ := back_good hi hs hi' (fun _ h => h)
  obtain ⟨g1, g2⟩ := h3 fun _ h => h
  refine ⟨v, froz k m' d, m, _, rfl, ⟨⟨hR, froz_free _ _ _⟩, rfl⟩, ?_, g1, g2⟩
  exact VRel.free (G := G'.froz m') (G' := { G with F := fun b => G'.F b ∨ Owned G' m' b }) ⟨fun _ h => h, fun _ _ => rfl⟩ (froz_free _ _ _) (froz_rel hi' k d v hvd)

mutual
/-- Nothing of memory in it. -/
def flat : D → Bool
  | .v _ => true
  | .agg l => flats l
  | .tup l => flats l
  | .dead => true
  | _ => false
def flats : List D → Bool
  | [] => true
  | d :: l => flat d && flats l
end

mutual
theorem VRel.flat {G G' : Gh} {w w' : World} : ∀ {d : D} {u : Value}, flat d = true → VRel G w d u → VRel G' w' d u
  | .v x, u, _, h => by simpa [VRel] using h
  | .agg l, u, hf, h => by
    simp only [VRel, Tm.flat] at h hf ⊢
    obtain ⟨cs, rfl, h, h1⟩ := h
    exact ⟨cs, rfl, VsRel.flat hf h, h1⟩
  | .tup l, u, hf, h => by
    simp only [VRel, Tm.flat] at h hf ⊢
    obtain ⟨cs, rfl, h⟩ := h
    exact ⟨cs, rfl, VsRel.flat hf h⟩
  | .dead, u, _, h => by simp [VRel]
  | .sl .., _, hf, _ => by simp [Tm.flat] at hf
  | .pt .., _, hf, _ => by simp [Tm.flat] at hf
  | .fn .., _, hf, _ => by simp [Tm.flat] at hf
  | .ref .., _, hf, _ => by simp [Tm.flat] at hf
  | .own .., _, hf, _ => by simp [Tm.flat] at hf
  | .view .., _, hf, _ => by simp [Tm.flat] at hf
  | .mp _, _, hf, _ => by simp [Tm.flat] at hf
theorem VsRel.flat {G G' : Gh} {w w' : World} : ∀ {l : List D} {us : List Value}, flats l = true → VsRel G w l us → VsRel G' w' l us
  | [], us, _, h => by simpa [VsRel] using h
  | d :: l, us, hf, h => by
    simp only [VsRel, flats, Bool.and_eq_true] at h hf ⊢
    obtain ⟨u, r, rfl, h1, h2⟩ := h
    exact ⟨u, r, rfl, VRel.flat hf.1 h1, VsRel.flat hf.2 h2⟩
end

/-- A contract of a function that takes trees and gives numbers: resources may be lent to it. -/
theorem callB_of {P : Program} {f : FuncId} {ds : List D} {R : D → Prop} {m : List Ent} (k : Nat) (h : CallT P f (ds.map (froz k m)) [] fun d m' => R d ∧ flat d = true) :
    CallT P f ds m fun d m' => R d ∧ m' = m := by
  refine ⟨h.1, fun G w vs hv hi => ?_⟩
  have hv' : VsRel (Gh.bare fun b => G.F b ∨ Owned G m b) w (ds.map (froz k m)) vs :=
    VsRel.free (G := G.froz m) (G' := Gh.bare fun b => G.F b ∨ Owned G m b) ⟨fun _ h => h, fun _ _ => rfl⟩ (idfrees_map (froz_free k m) _) (vs_map_rel (froz_rel hi k) hv)
  have h0 := h.2 _ w vs hv' (inv_bare (fun b hb => by
    rcases hb with hb | hb
    · exact hi.F b hb
    · exact (Owned.lt hi hb).1))
  refine h0.mono ?_
  rintro e w' ⟨v, d, m', G', rfl, ⟨hR, hfl⟩, hvd, hi', hs⟩
  obtain ⟨-, h2, -⟩ := back_good hi hs hi' (fun _ h => .inl h)
  exact ⟨v, d, m, G, rfl, ⟨hR, rfl⟩, hvd.flat hfl, h2.1, h2.2⟩
end Go.Tm
