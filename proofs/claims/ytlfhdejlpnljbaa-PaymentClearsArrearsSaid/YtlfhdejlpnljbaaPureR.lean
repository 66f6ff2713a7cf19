/-
  What distribute's postings are, in plain lists.
-/
import Derived.Test.YtlfhdejlpnljbaaLaw39
set_option linter.unusedSimpArgs false
set_option linter.unusedVariables false
set_option maxHeartbeats 2000000
namespace Go.Proofs.Ytlfhdejlpnljbaa
open Go.Tm
set_option maxRecDepth 10000

/-- The sum of the postings. -/
def sumC : List Ps → Int
  | [] => 0
  | p :: l => p.c + sumC l
theorem sumC_append (a b : List Ps) : sumC (a ++ b) = sumC a + sumC b := by
  induction a with
  | nil => simp [sumC]
  | cons p a ih => simp only [List.cons_append, sumC, ih]; omega
theorem sumC_nn {l : List Ps} (h : ∀ p ∈ l, 1 ≤ p.c) : 0 ≤ sumC l := by
  induction l with
  | nil => exact Int.le_refl _
  | cons p l ih =>
    have := ih fun q hq => h q (List.mem_cons_of_mem _ hq)
    have := h p (List.mem_cons_self ..)
    simp only [sumC]; omega
theorem sumC_take {l : List Ps} (h : ∀ p ∈ l, 1 ≤ p.c) (i : Nat) : 0 ≤ sumC (l.take i) ∧ sumC (l.take i) ≤ sumC l := by
  have h1 := sumC_nn (l := l.take i) fun p hp => h p (List.mem_of_mem_take hp)
  have h2 := sumC_nn (l := l.drop i) fun p hp => h p (List.mem_of_mem_drop hp)
  have h3 := sumC_append (l.take i) (l.drop i)
  rw [List.take_append_drop] at h3
  omega
theorem sumC_succ {l : List Ps} {i : Nat} (h : i < l.length) : sumC (l.take (i + 1)) = sumC (l.take i) + l[i].c := by
  rw [List.take_succ_eq_append_getElem h, sumC_append]
  simp only [sumC]; omega

/-- A posting belongs to the balance. -/
def okPB (p : Ps) (b : Ba) : Prop := b.m = p.m ∧ p.c ≤ ovW b
instance (p : Ps) (b : Ba) : Decidable (okPB p b) := by unfold okPB; infer_instance

/-- The postings belong to balances, in order. -/
def Emb : List Ps → List Ba → Prop
  | [], _ => True
  | _ :: _, [] => False
  | p :: ps, b :: l => (okPB p b ∧ Emb ps l) ∨ Emb (p :: ps) l
theorem Emb.tail : ∀ {l : List Ba} {p : Ps} {ps : List Ps}, Emb (p :: ps) l → Emb ps l
  | [], _, _, h => h.elim
  | b :: l, p, [], h => trivial
  | b :: l, p, q :: ps, h => by
    rcases h with ⟨_, h⟩ | h
    · exact .inr h
    · exact .inr h.tail
theorem Emb.more : ∀ {ps : List Ps} {b : Ba} {l : List Ba}, Emb ps l → Emb ps (b :: l)
  | [], _, _, _ => trivial
  | _ :: _, _, _, h => .inr h
theorem Emb.hit {p : Ps} {ps : List Ps} {b : Ba} {l : List Ba} (h : Emb (p :: ps) (b :: l)) : Emb ps l := by
  rcases h with ⟨_, h⟩ | h
  · exact h
  · exact h.tail
theorem Emb.miss {p : Ps} {ps : List Ps} {b : Ba} {l : List Ba} (h : Emb (p :: ps) (b :: l)) (hn : ¬ okPB p b) : Emb (p :: ps) l := by
  rcases h with ⟨h, _⟩ | h
  · exact (hn h).elim
  · exact h
theorem Emb.snoc : ∀ {l : List Ba} {ps : List Ps} {b : Ba}, Emb ps l → Emb ps (l ++ [b])
  | [], [], _, _ => trivial
  | [], _ :: _, _, h => h.elim
  | _ :: _, [], _, _ => trivial
  | c :: l, p :: ps, b, h => by
    rcases h with ⟨h1, h2⟩ | h
    · exact .inl ⟨h1, h2.snoc⟩
    · exact .inr h.snoc
theorem Emb.both : ∀ {l : List Ba} {ps : List Ps} {p : Ps} {b : Ba}, Emb ps l → okPB p b → Emb (ps ++ [p]) (l ++ [b])
  | [], [], p, b, _, hk => .inl ⟨hk, trivial⟩
  | [], _ :: _, _, _, h, _ => h.elim
  | c :: l, [], p, b, _, hk => by
    have := Emb.both (l := l) (ps := []) (by cases l <;> trivial) hk
    exact .inr this
  | c :: l, q :: ps, p, b, h, hk => by
    rcases h with ⟨h1, h2⟩ | h
    · exact .inl ⟨h1, h2.both hk⟩
    · exact .inr (h.both hk)

/-- What holds of the postings so far. -/
structure Good (st : Int → Bool) (date kind rest : Int) (l : List Ba) (s : List Ps × Int) : Prop where
  each : ∀ p ∈ s.1, 1 ≤ p.c ∧ p.k = kind ∧ p.d = date ∧ st p.m = false
  sum : sumC s.1 + s.2 = rest
  rem : 0 ≤ s.2
  emb : Emb s.1 l
  full : 0 < s.2 → s.1 = (l.filter fun b => decide (0 < ovW b) && !st b.m).map fun b => ⟨date, b.m, kind, ovW b⟩

theorem Good.step {st : Int → Bool} {date kind rest : Int} {l : List Ba} {s : List Ps × Int} (h : Good st date kind rest l s) (b : Ba) : Good st date kind rest (l ++ [b]) (dstep st date kind s b) := by
  unfold dstep
  split
  · rename_i hc
    refine ⟨h.each, h.sum, h.rem, h.emb.snoc, fun hp => ?_⟩
    rw [h.full hp, List.filter_append, List.map_append]
    have : (decide (0 < ovW b) && !st b.m) = false := by
      rcases hc with hc | hc | hc
      · omega
      · simp; intro h0; omega
      · simp [hc]
    simp [this]
  · rename_i hc
    simp only [not_or, Bool.not_eq_true, Int.not_le] at hc
    obtain ⟨c1, c2, c3⟩ := hc
    refine ⟨?_, ?_, ?_, h.emb.both ⟨rfl, ?_⟩, fun hp => ?_⟩
    · intro p hp
      rcases List.mem_append.1 hp with hp | hp
      · exact h.each p hp
      · rw [List.mem_singleton.1 hp]
        exact ⟨by simp only; omega, rfl, rfl, c3⟩
    · have := h.sum
      rw [sumC_append]
      simp only [sumC]; omega
    · simp only; omega
    · simp only; omega
    · simp only at hp
      have e : min (ovW b) s.2 = ovW b := by omega
      rw [h.full (by omega), List.filter_append, List.map_append, e]
      simp [c2, c3]

theorem dist_good (st : Int → Bool) (date kind : Int) (l : List Ba) (rest : Int) (hr : 0 ≤ rest) : Good st date kind rest l (dist st date kind l rest) := by
  have key : ∀ (r d : List Ba) (s : List Ps × Int), Good st date kind rest d s → Good st date kind rest (d ++ r) (r.foldl (dstep st date kind) s) := by
    intro r
    induction r with
    | nil => intro d s h; simpa using h
    | cons b r ih =>
      intro d s h
      have := ih (d ++ [b]) _ (h.step b)
      rwa [List.append_assoc] at this
  have := key l [] ([], rest) ⟨by simp, by simp [sumC], hr, trivial, fun _ => rfl⟩
  rw [List.nil_append] at this
  exact this
end Go.Proofs.Ytlfhdejlpnljbaa
