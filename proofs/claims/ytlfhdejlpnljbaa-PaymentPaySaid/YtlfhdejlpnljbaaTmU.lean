/-
  The theorem on a region whose order is open.
-/
import Derived.Test.YtlfhdejlpnljbaaTmS
set_option linter.unusedSimpArgs false
set_option linter.unusedVariables false
namespace Go.Tm
open Go.RowKit (Below)

theorem look_some {m : List Ent} {d : D} {n : Nat} (h : lenOfD m d = some n) {id : Nat} (ht : topId d = some id) : ∃ e, m[id]? = some e := by
  unfold lenOfD at h
  split at h <;> simp only [topId, reduceCtorEq, Option.some.injEq] at ht
  · subst ht; split at h
    · rename_i hm; exact ⟨_, hm⟩
    · cases h
  · subst ht; split at h
    · rename_i hm; exact ⟨_, hm⟩
    · cases h
  · cases h

/-- A reading instruction that succeeds has found the resource that it looks at. -/
theorem evalI_looks {s : St} {i : I} {d : D} {m1 : List Ent} (he : evalI s i = some (d, m1)) {x : Operand} {id : Nat} (hx : i.at? = some x) (ht : topId (s.ev x) = some id) : ∃ e, s.m[id]? = some e := by
  cases i <;> simp only [I.at?, reduceCtorEq, Option.some.injEq] at hx <;> subst hx
  · simp only [evalI] at he
    split at he
    · rename_i hx; rw [hx] at ht; cases ht
    · rename_i hx
      rw [hx] at ht
      simp only [topId, Option.some.injEq] at ht
      subst ht
      split at he
      · rename_i hm; exact ⟨_, hm⟩
      · cases he
    · cases he
  · simp only [evalI] at he
    split at he
    · rename_i n hn; exact look_some hn ht
    · cases he
  · simp only [evalI] at he
    split at he
    · split at he
      · split at he
        · rename_i hx; rw [hx] at ht; cases ht
        · rename_i hx
          rw [hx] at ht
          simp only [topId, Option.some.injEq] at ht
          subst ht
          split at he
          · rename_i hm; exact ⟨_, hm⟩
          · cases he
        · rename_i hx
          rw [hx] at ht
          simp only [topId, Option.some.injEq] at ht
          subst ht
          split at he
          · rename_i hm; exact ⟨_, hm⟩
          · cases he
        · cases he
      · cases he
    · cases he
  · simp only [evalI, Option.map_eq_some_iff] at he
    obtain ⟨n, hn, -⟩ := he
    exact look_some hn ht
  · simp only [evalI] at he
    split at he
    · split at he
      · split at he
        · rename_i hx; rw [hx] at ht; cases ht
        · rename_i hx
          rw [hx] at ht
          simp only [topId, Option.some.injEq] at ht
          subst ht
          split at he
          · rename_i hm; exact ⟨_, hm⟩
          · cases he
        · cases he
      · cases he
    · cases he
  · simp only [evalI] at he
    split at he
    · rename_i hx; rw [hx] at ht; cases ht
    · rename_i hx
      rw [hx] at ht
      simp only [topId, Option.some.injEq] at ht
      subst ht
      split at he
      · rename_i hm; exact ⟨_, hm⟩
      · cases he
    · cases he

section
variable (dst : Nat → Option Tmp) (dd : Nat → D) (xx : Nat → List Ent) (L : Nat → Bool)

/-- The slots once those of the first n operations that L names are done. -/
def tS (t0 : List D) : Nat → List D
  | 0 => t0
  | n + 1 => if L n then (match dst n with | some y => (tS t0 n).set y (dd n) | none => tS t0 n) else tS t0 n

/-- The resources then. -/
def mS (m0 : List Ent) : Nat → List Ent
  | 0 => m0
  | n + 1 => if L n then mS m0 n ++ xx n else mS m0 n
end

section
variable {dst : Nat → Option Tmp} {dd : Nat → D} {xx : Nat → List Ent} {L : Nat → Bool}

theorem tS_length (t0 : List D) : ∀ n, (tS dst dd L t0 n).length = t0.length
  | 0 => rfl
  | n + 1 => by
    simp only [tS]
    split
    · split
      · simp [tS_length t0 n]
      · exact tS_length t0 n
    · exact tS_length t0 n

theorem tS_get (t0 : List D) (n y : Nat) : (tS dst dd L t0 (n + 1)).getD y .dead = if L n = true ∧ dst n = some y ∧ y < t0.length then dd n else (tS dst dd L t0 n).getD y .dead := by
  simp only [tS]
  by_cases hL : L n = true
  · rw [if_pos hL]
    cases hd : dst n with
    | none => simp
    | some z =>
      simp only
      rw [List.getD_eq_getElem?_getD, List.getElem?_set]
      by_cases hz : z = y
      · subst hz
        rw [if_pos rfl, tS_length]
        by_cases hlt : z < t0.length
        · simp [hL, hlt]
        · have h9 : (tS dst dd L t0 n).length ≤ z := by rw [tS_length]; exact Nat.le_of_not_lt hlt
          have hnone : (tS dst dd L t0 n)[z]? = none := List.getElem?_eq_none h9
          simp [hlt, hnone]
      · rw [if_neg hz, if_neg (by rintro ⟨-, h, -⟩; injection h with h; exact hz h)]
        rw [List.getD_eq_getElem?_getD]
  · rw [if_neg hL, if_neg (fun h => hL h.1)]

theorem tS_reads (t0 : List D) {i y : Nat} : ∀ {q : Nat}, i ≤ q → (∀ j, j < q → dst j = some y → (L j = true ↔ j < i)) → (tS dst dd L t0 q).getD y .dead = (tS dst dd (fun _ => true) t0 i).getD y .dead := by
  have h1 : ∀ n, n ≤ i → (∀ j, j < n → dst j = some y → L j = true) → (tS dst dd L t0 n).getD y .dead = (tS dst dd (fun _ => true) t0 n).getD y .dead := by
    intro n
    induction n with
    | zero => intro _ _; rfl
    | succ n ih =>
      intro hn h
      rw [tS_get, tS_get, ih (by omega) (fun j hj => h j (by omega))]
      by_cases hd : dst n = some y
      · simp [h n (by omega) hd, hd]
      · simp [hd]
  intro q
  induction q with
  | zero => intro hi _; have : i = 0 := by omega
            subst this; rfl
  | succ q ih =>
    intro hi h
    by_cases hq : i = q + 1
    · subst hq
      exact h1 (q + 1) (Nat.le_refl _) fun j hj hd => (h j hj hd).2 hj
    · rw [tS_get, if_neg ?_]
      · exact ih (by omega) fun j hj => h j (by omega)
      · rintro ⟨hL, hd, -⟩
        have := (h q (by omega) hd).1 hL
        omega

/-- A set that has, with each maker, the earlier ones, has the first of them. -/
theorem mS_prefix (m0 : List Ent) : ∀ (q : Nat), (∀ i j, i < j → j < q → xx i ≠ [] → xx j ≠ [] → L j = true → L i = true) → ∃ k, k ≤ q ∧ mS xx L m0 q = mS xx (fun _ => true) m0 k
  | 0, _ => ⟨0, Nat.le_refl _, rfl⟩
  | q + 1, h => by
    obtain ⟨k, hk, he⟩ := mS_prefix m0 q fun i j hij hj => h i j hij (by omega)
    by_cases hx : xx q = []
    · refine ⟨k, by omega, ?_⟩
      simp only [mS, hx, List.append_nil, he, ite_self]
    · by_cases hL : L q = true
      · refine ⟨q + 1, Nat.le_refl _, ?_⟩
        have hall : ∀ n, n ≤ q → mS xx L m0 n = mS xx (fun _ => true) m0 n := by
          intro n
          induction n with
          | zero => intro _; rfl
          | succ n ih =>
            intro hn
            simp only [mS, ih (by omega), if_true]
            by_cases hxn : xx n = []
            · simp [hxn]
            · rw [if_pos (h n q (by omega) (by omega) hxn hx hL)]
        simp only [mS, hL, if_true, hall q (Nat.le_refl _)]
      · exact ⟨k, by omega, by simp only [mS, hL, if_false, Bool.false_eq_true]; exact he⟩

theorem mS_mono (m0 : List Ent) {k i : Nat} (h : k ≤ i) : ∃ r, mS xx (fun _ => true) m0 i = mS xx (fun _ => true) m0 k ++ r := by
  induction i with
  | zero => have : k = 0 := by omega
            subst this; exact ⟨[], by simp⟩
  | succ i ih =>
    by_cases hk : k = i + 1
    · subst hk; exact ⟨[], by simp⟩
    · obtain ⟨r, hr⟩ := ih (by omega)
      exact ⟨r ++ xx i, by simp only [mS, if_true, hr, List.append_assoc]⟩

theorem mS_exact (m0 : List Ent) {i : Nat} : ∀ {q : Nat}, i ≤ q → (∀ j, j < q → xx j ≠ [] → (L j = true ↔ j < i)) → mS xx L m0 q = mS xx (fun _ => true) m0 i := by
  have h1 : ∀ n, n ≤ i → (∀ j, j < n → xx j ≠ [] → L j = true) → mS xx L m0 n = mS xx (fun _ => true) m0 n := by
    intro n
    induction n with
    | zero => intro _ _; rfl
    | succ n ih =>
      intro hn h
      simp only [mS, ih (by omega) (fun j hj => h j (by omega)), if_true]
      by_cases hxn : xx n = []
      · simp [hxn]
      · rw [if_pos (h n (by omega) hxn)]
  intro q
  induction q with
  | zero => intro hi _; have : i = 0 := by omega
            subst this; rfl
  | succ q ih =>
    intro hi h
    by_cases hq : i = q + 1
    · subst hq
      exact h1 (q + 1) (Nat.le_refl _) fun j hj hd => (h j hj hd).2 hj
    · simp only [mS]
      by_cases hx : xx q = []
      · simp only [hx, List.append_nil, ite_self]
        exact ih (by omega) fun j hj => h j (by omega)
      · rw [if_neg ?_]
        · exact ih (by omega) fun j hj => h j (by omega)
        · intro hL
          have := (h q (by omega) hx).1 hL
          omega

theorem tS_step (t0 : List D) {L' : Nat → Bool} {i : Nat} (hi : L i = false) (hL' : ∀ j, L' j = (L j || j == i)) : ∀ {q : Nat}, i < q → (∀ j, i < j → j < q → ∀ y, dst i = some y → dst j = some y → L j = false) →
    tS dst dd L' t0 q = (match dst i with | some y => (tS dst dd L t0 q).set y (dd i) | none => tS dst dd L t0 q) := by
  have hlow : ∀ n, n ≤ i → tS dst dd L' t0 n = tS dst dd L t0 n := by
    intro n
    induction n with
    | zero => intro _; rfl
    | succ n ih =>
      intro hn
      have : L' n = L n := by rw [hL']; have : (n == i) = false := by simp; omega
                              simp [this]
      simp only [tS, this, ih (by omega)]
  intro q
  induction q with
  | zero => intro h; omega
  | succ q ih =>
    intro hq hw
    by_cases hqi : q = i
    · subst hqi
      have h1 : L' q = true := by rw [hL']; simp
      simp only [tS, h1, if_true, hi, hlow q (Nat.le_refl _), Bool.false_eq_true, if_false]
    · have h1 : L' q = L q := by rw [hL']; have : (q == i) = false := by simp; omega
                                 simp [this]
      have ih' := ih (by omega) fun j hj hjq => hw j hj (by omega)
      simp only [tS, h1, ih']
      cases hdi : dst i with
      | none => simp
      | some y =>
        simp only
        split
        · rename_i hLq
          split
          · rename_i z hz
            have hne : y ≠ z := by
              rintro rfl
              have := hw q (by omega) (by omega) y hdi hz
              rw [this] at hLq; cases hLq
            rw [List.set_comm _ _ hne]
          · rfl
        · rfl

theorem mS_step (m0 : List Ent) {L' : Nat → Bool} {i : Nat} (hi : L i = false) (hL' : ∀ j, L' j = (L j || j == i)) : ∀ {q : Nat}, i < q → (∀ j, i < j → j < q → xx i ≠ [] → xx j ≠ [] → L j = false) →
    mS xx L' m0 q = mS xx L m0 q ++ xx i := by
  have hlow : ∀ n, n ≤ i → mS xx L' m0 n = mS xx L m0 n := by
    intro n
    induction n with
    | zero => intro _; rfl
    | succ n ih =>
      intro hn
      have : L' n = L n := by rw [hL']; have : (n == i) = false := by simp; omega
                              simp [this]
      simp only [mS, this, ih (by omega)]
  intro q
  induction q with
  | zero => intro h; omega
  | succ q ih =>
    intro hq hw
    by_cases hqi : q = i
    · subst hqi
      have h1 : L' q = true := by rw [hL']; simp
      simp only [mS, h1, if_true, hi, hlow q (Nat.le_refl _), Bool.false_eq_true, if_false]
    · have h1 : L' q = L q := by rw [hL']; have : (q == i) = false := by simp; omega
                                 simp [this]
      have ih' := ih (by omega) fun j hj hjq => hw j hj (by omega)
      simp only [mS, h1, ih']
      split
      · rename_i hLq
        by_cases hxi : xx i = []
        · simp [hxi]
        · by_cases hxq : xx q = []
          · simp [hxq]
          · have := hw q (by omega) (by omega) hxi hxq
            rw [this] at hLq; cases hLq
      · rfl
end

/-- What one operation that may change places comes to in the state s: its value d, the resources x that it makes. -/
def FloStep (P : Program) (r : RI) (s : St) (d : D) (x : List Ent) : Prop :=
  match r with
  | .op _ g i => ((gate s g = some none ∨ ∃ c, gate s g = some (some (c, c))) ∧ evalI s i = some (d, s.m ++ x)) ∨ ((∃ c b, gate s g = some (some (c, b)) ∧ c ≠ b) ∧ d = .v undef ∧ x = [])
  | .call _ g f args => ∃ k first caps, s.ev f = .fn k first caps ∧ x = [] ∧
      (((gate s g = some none ∨ ∃ c, gate s g = some (some (c, c))) ∧ ∀ m, CallT P k (first ++ args.map s.ev ++ caps) m fun d' m' => d' = d ∧ m' = m) ∨ ((∃ c b, gate s g = some (some (c, b)) ∧ c ≠ b) ∧ d = .v undef))

def after (s : St) (r : RI) (d : D) (x : List Ent) : St := ({ s with m := s.m ++ x } : St).put r.dst d

/-- The first operations, in the text's order. -/
def Flo (P : Program) : List RI → St → List (D × List Ent) → St → Prop
  | [], s, os, s' => os = [] ∧ s' = s
  | r :: l, s, os, s' => ∃ d x os', os = (d, x) :: os' ∧ FloStep P r s d x ∧ Flo P l (after s r d x) os' s'

section
variable {P : Program}

theorem Flo.length : ∀ {l : List RI} {s s' : St} {os : List (D × List Ent)}, Flo P l s os s' → os.length = l.length
  | [], s, s', os, h => by simp [h.1]
  | r :: l, s, s', os, h => by
    obtain ⟨d, x, os', rfl, _, h⟩ := h
    simp [Flo.length h]

/-- The canonical state before operation i. -/
def stC (rl : List RI) (os : List (D × List Ent)) (s : St) (L : Nat → Bool) (n : Nat) : St :=
  ⟨tS (fun i => (rl.getD i (.op none none (.mv (.const undef)))).dst) (fun i => (os.getD i (.dead, [])).1) L s.t n, mS (fun i => (os.getD i (.dead, [])).2) L s.m n⟩

theorem after_t (s : St) (r : RI) (d : D) (x : List Ent) : (after s r d x).t = (match r.dst with | some y => s.t.set y d | none => s.t) ∧ (after s r d x).m = s.m ++ x := by
  unfold after St.put
  cases r.dst <;> exact ⟨rfl, rfl⟩

theorem Flo.get {rl : List RI} {os : List (D × List Ent)} {s0 : St} : ∀ {l : List RI} {k : Nat} {s' : St} {os' : List (D × List Ent)}, l = (rl.drop k).take l.length → os' = (os.drop k).take os'.length → Flo P l (stC rl os s0 (fun _ => true) k) os' s' →
    (∀ i, i < l.length → FloStep P (rl.getD (k + i) (.op none none (.mv (.const undef)))) (stC rl os s0 (fun _ => true) (k + i)) (os.getD (k + i) (.dead, [])).1 (os.getD (k + i) (.dead, [])).2) ∧ s' = stC rl os s0 (fun _ => true) (k + l.length)
  | [], k, s', os', _, _, h => ⟨fun i hi => by simp at hi, by simpa using h.2⟩
  | r :: l, k, s', os', h1, h2, h => by
    obtain ⟨d, x, os'', rfl, hs, h⟩ := h
    have hr : rl[k]? = some r := by
      have := congrArg (fun l => l[0]?) h1
      simpa [List.getElem?_take, List.getElem?_drop] using this.symm
    have ho : os[k]? = some (d, x) := by
      have := congrArg (fun l => l[0]?) h2
      simpa [List.getElem?_take, List.getElem?_drop] using this.symm
    have hr' : rl.getD k (.op none none (.mv (.const undef))) = r := by rw [List.getD_eq_getElem?_getD, hr]; rfl
    have ho' : os.getD k (.dead, []) = (d, x) := by rw [List.getD_eq_getElem?_getD, ho]; rfl
    have hnext : after (stC rl os s0 (fun _ => true) k) r d x = stC rl os s0 (fun _ => true) (k + 1) := by
      have ha := after_t (stC rl os s0 (fun _ => true) k) r d x
      have : after (stC rl os s0 (fun _ => true) k) r d x = ⟨(after (stC rl os s0 (fun _ => true) k) r d x).t, (after (stC rl os s0 (fun _ => true) k) r d x).m⟩ := rfl
      rw [this, ha.1, ha.2]
      simp only [stC, tS, mS, if_true, hr', ho']
    rw [hnext] at h
    have t1 : l = (rl.drop (k + 1)).take l.length := by
      have hk : k < rl.length := (List.getElem?_eq_some_iff.1 hr).1
      rw [List.drop_eq_getElem_cons hk, List.length_cons, List.take_succ_cons] at h1
      exact (List.cons.inj h1).2
    have t2 : os'' = (os.drop (k + 1)).take os''.length := by
      have hk : k < os.length := (List.getElem?_eq_some_iff.1 ho).1
      rw [List.drop_eq_getElem_cons hk, List.length_cons, List.take_succ_cons] at h2
      exact (List.cons.inj h2).2
    obtain ⟨g1, g2⟩ := Flo.get t1 t2 h
    refine ⟨fun i hi => ?_, by rw [g2]; simp [Nat.add_assoc, Nat.add_comm 1]⟩
    cases i with
    | zero => simp only [Nat.add_zero, hr', ho']; exact hs
    | succ i =>
      have := g1 i (by simpa using hi)
      rwa [show k + 1 + i = k + (i + 1) by omega] at this

theorem filter_lt {L L' : Nat → Bool} {i : Nat} (hi : L i = false) (hL' : ∀ j, L' j = (L j || j == i)) : ∀ {l : List Nat}, i ∈ l → (l.filter fun j => !L' j).length < (l.filter fun j => !L j).length
  | [], h => by cases h
  | a :: l, h => by
    have mono : ∀ l : List Nat, (l.filter fun j => !L' j).length ≤ (l.filter fun j => !L j).length := by
      intro l
      induction l with
      | nil => simp
      | cons b l ih =>
        simp only [List.filter_cons, hL' b]
        cases hb : L b
        · cases hbi : (b == i)
          · simp; exact ih
          · simp; omega
        · simp; exact ih
    by_cases ha : a = i
    · subst ha
      have h1 : L' a = true := by rw [hL']; simp
      simp only [List.filter_cons, h1, hi]
      have := mono l
      simp
      omega
    · have hin : i ∈ l := by
        cases h with
        | head => exact (ha rfl).elim
        | tail _ h => exact h
      have ih := filter_lt hi hL' hin
      have h1 : L' a = L a := by rw [hL']; have : (a == i) = false := by simpa using ha
                                 simp [this]
      simp only [List.filter_cons, h1]
      split
      · simp; exact ih
      · exact ih

theorem compOps_get {ops : Array Oper} : ∀ {l : List Oper} {rl : List RI}, compOps P ops l = some rl → rl.length = l.length ∧ ∀ (i : Nat) o, l[i]? = some o → ∃ r, rl[i]? = some r ∧ compOp P ops o = some r
  | [], rl, h => by simp [compOps] at h; subst h; simp
  | o :: l, rl, h => by
    simp only [compOps] at h
    split at h
    · rename_i r rs h1 h2
      injection h with h; subst h
      obtain ⟨g1, g2⟩ := compOps_get h2
      refine ⟨by simp [g1], fun i o' ho => ?_⟩
      cases i with
      | zero => simp at ho; subst ho; exact ⟨r, rfl, h1⟩
      | succ i => simpa using g2 i o' (by simpa using ho)
    · cases h

theorem compOp_dst {ops : Array Oper} {o : Oper} {r : RI} (h : compOp P ops o = some r) : r.dst = o.dst := by
  unfold compOp at h
  split at h
  · cases h
  · split at h
    · injection h with h; subst h; rfl
    · simp only [Option.map_eq_some_iff] at h
      obtain ⟨i, -, rfl⟩ := h
      rfl

/-- One operation that may change places, carried out in a state that agrees with the canonical one in what it looks at. -/
theorem flo_op {ops : Array Oper} {o : Oper} {r : RI} (hc : compOp P ops o = some r) {sc s : St} {d : D} {x : List Ent} (hf : FloStep P r sc d x) (ht : ∀ t ∈ r.reads, s.t.getD t .dead = sc.t.getD t .dead)
    (hm : r.cls = 2 → s.m = sc.m) (hm1 : ∀ (id : Nat), (∃ e, sc.m[id]? = some e) → id < s.m.length → s.m[id]? = sc.m[id]?) (hcls : r.cls ≤ 2)
    {G : Gh} {w : World} {a : Act} (hr : Rel G w a s) {i : Nat} (hi : ops[i]? = some o) {Q : Exit → Act → World → Prop} {K : Act → World → Prop}
    (hK : ∀ G' w' a', Rel G' w' a' (after s r d x) → Step G w s.m G' w' (s.m ++ x) → K a' w') : wpOp P ops Q i K a w := by
  have hdst := compOp_dst hc
  unfold wpOp
  simp only [hi]
  unfold compOp at hc
  split at hc
  · cases hc
  · rename_i g hg
    obtain ⟨hgate1, hgate2⟩ := gate_wanted hr hg
    have hgt : gate s g = gate sc g := gate_congr (fun t h => ht t (by
      split at hc
      · injection hc with hc; subst hc; simp [RI.reads, h]
      · simp only [Option.map_eq_some_iff] at hc
        obtain ⟨i, -, rfl⟩ := hc
        simp [RI.reads, h]))
    have won : (gate sc g = some none ∨ ∃ c, gate sc g = some (some (c, c))) → Region.wanted o (yielded ops a.tmps) = true := by
      rintro (h | ⟨c, h⟩)
      · exact hgate1 (by rw [hgt, h]) o rfl
      · rw [hgate2 c c (by rw [hgt, h]) o rfl]; simp
    have woff : (∃ c b, gate sc g = some (some (c, b)) ∧ c ≠ b) → Region.wanted o (yielded ops a.tmps) = false := by
      rintro ⟨c, b, h, hne⟩
      rw [hgate2 c b (by rw [hgt, h]) o rfl]
      simpa using hne
    have skip : d = .v undef → x = [] → K (a.put o.dst undef) w := by
      rintro rfl rfl
      refine hK G w _ ?_ (by rw [List.append_nil]; exact Step.refl _ _ _)
      unfold after
      rw [hdst, List.append_nil]
      exact rel_skip hr o.dst
    split at hc
    · rename_i f args tys ho
      injection hc with hc
      subst hc
      obtain ⟨k, first, caps, hfe, rfl, hf⟩ := hf
      have hfe' : s.ev f = .fn k first caps := by rw [ev_congr (s := sc) (s' := s) (x := f) (fun t h => ht t (by simp [RI.reads, h]))]; exact hfe
      have hargs : args.toList.map s.ev = args.toList.map sc.ev := map_congr (fun t h => ht t (by simp [RI.reads]; simp at h; exact .inr (.inr h)))
      rcases hf with ⟨hon, hcall⟩ | ⟨hoff, hd⟩
      · rw [if_pos (won hon)]
        refine .inl ?_
        have hfv := hr.ev f
        rw [hfe'] at hfv
        simp only [VRel] at hfv
        obtain ⟨fs, cs, hfv, hv1, hv2⟩ := hfv
        obtain ⟨⟨fn, e1, e2, e3⟩, hcc⟩ := hcall s.m
        have hrun := run_call (P := P) (w := w) ho hfv e1 e2 e3
        rw [← hargs] at hcc
        have hcalls := hcc G w (fs ++ args.toList.map a.eval ++ cs) ((hv1.append (vs_map hr _)).append hv2) hr.inv
        unfold Oper.wp
        rw [hrun, Oper.upon_enter]
        refine hcalls.mono ?_
        rintro e w' ⟨v, d', m', G', rfl, ⟨rfl, rfl⟩, hvd, hi', hs'⟩
        refine hK G' w' _ ?_ (by rw [List.append_nil]; exact hs')
        unfold after
        rw [List.append_nil]
        exact (hr.step hs'.le hi').put o.dst hvd
      · rw [if_neg (by rw [woff hoff]; decide)]
        exact skip hd rfl
    · rename_i op hno
      simp only [Option.map_eq_some_iff] at hc
      obtain ⟨j, hj, rfl⟩ := hc
      rcases hf with ⟨hon, hev⟩ | ⟨hoff, hd, hx⟩
      · rw [if_pos (won hon)]
        refine .inl ?_
        have hev' : evalI s j = some (d, s.m ++ x) := by
          simp only [RI.cls] at hcls hm
          have htj : ∀ t ∈ j.reads, s.t.getD t .dead = sc.t.getD t .dead := fun t h => ht t (by simp [RI.reads, h])
          by_cases h2 : j.cls = 2
          · rw [hm h2]
            exact (evalI_make h2 htj (hm h2) hev).1
          · have h1 : j.cls ≤ 1 := by omega
            obtain ⟨hxm, hres⟩ := evalI_congr (s := sc) (s' := s) h1 htj (fun y id hy hid => by
              refine hm1 id (evalI_looks hev hy hid) ?_
              have hvy := hr.ev y
              have hevy : s.ev y = sc.ev y := ev_congr (fun t h => htj t (by
                cases j <;> simp only [I.at?, reduceCtorEq, Option.some.injEq] at hy <;> subst hy <;> simp [I.reads, h]))
              rw [hevy] at hvy
              have hn := hr.inv.n
              generalize sc.ev y = dy at *
              cases dy <;> simp only [topId, reduceCtorEq, Option.some.injEq] at hid
              · subst hid; simp only [VRel] at hvy; obtain ⟨_, _, h, _⟩ := hvy; omega
              · subst hid; simp only [VRel] at hvy; obtain ⟨_, _, _, _, h, _⟩ := hvy; omega
              · subst hid; simp only [VRel] at hvy; obtain ⟨_, _, _, _, h, _⟩ := hvy; omega
              · subst hid; simp only [VRel] at hvy; obtain ⟨_, _, h, _⟩ := hvy; omega) hev
            have : x = [] := by
              have := congrArg List.length hxm
              simp at this
              exact this
            rw [this, List.append_nil]
            exact hres
        exact hr.good (sound_I hj hr hev') fun G' w' u hr' hs' => hK G' w' _ hr' hs'
      · rw [if_neg (by rw [woff hoff]; decide)]
        exact skip hd hx
end
end Go.Tm
