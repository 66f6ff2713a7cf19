/-
  A region whose order is open, carried out in any order: as in the text's.
-/
import Derived.Test.YtlfhdejlpnljbaaTmU
set_option linter.unusedSimpArgs false
set_option linter.unusedVariables false
namespace Go.Tm
open Go.RowKit (Below)
section
variable {P : Program}

/-- One operation of a region, by RegT. -/
theorem regT_op {ops : Array Oper} {Q : Exit → Act → World → Prop} {K : St → Prop} {o : Oper} {r : RI} {rs : List RI} {s : St} {G : Gh} {w : World} {a : Act} (h1 : compOp P ops o = some r) (hK : RegT P (r :: rs) K s) (hr : Rel G w a s)
    {i : Nat} (hi : ops[i]? = some o) {Kx : Act → World → Prop} (rest : ∀ {G' : Gh} {w' : World} {a' : Act} {s' : St}, RegT P rs K s' → Rel G' w' a' s' → Step G w s.m G' w' s'.m → Kx a' w') : wpOp P ops Q i Kx a w := by
  unfold wpOp
  simp only [hi]
  unfold compOp at h1
  split at h1
  · cases h1
  · rename_i g hg
    obtain ⟨hgate1, hgate2⟩ := gate_wanted hr hg
    have doI : ∀ {i : I} {d : D} {m' : List Ent}, compI P o.op = some i → evalI s i = some (d, m') → RegT P rs K ({ s with m := m' }.put o.dst d) → o.wp P a w Kx Q := by
      intro i d m' hi he hK'
      exact hr.good (sound_I hi hr he) fun G' w' u hr' hs' => rest hK' hr' (by rw [put_m]; exact hs')
    have skip : RegT P rs K (s.put o.dst (.v undef)) → Kx (a.put o.dst undef) w := fun hK' => rest hK' (rel_skip hr o.dst) (by rw [put_m]; exact Step.refl _ _ _)
    split at h1
    · rename_i f args tys ho
      injection h1 with h1
      subst h1
      simp only [RegT] at hK
      have hf := hr.ev f
      split at hK
      · rename_i k first caps hfe
        rw [hfe] at hf
        simp only [VRel] at hf
        obtain ⟨fs, cs, hfv, hv1, hv2⟩ := hf
        have doC : CallT P k (first ++ args.toList.map s.ev ++ caps) s.m (fun d m' => RegT P rs K ({ s with m := m' }.put o.dst d)) → o.wp P a w Kx Q := by
          rintro ⟨⟨fn, e1, e2, e3⟩, hcall⟩
          have hrun := run_call (P := P) (w := w) ho hfv e1 e2 e3
          have hcalls := hcall G w (fs ++ args.toList.map a.eval ++ cs) ((hv1.append (vs_map hr _)).append hv2) hr.inv
          unfold Oper.wp
          rw [hrun, Oper.upon_enter]
          refine hcalls.mono ?_
          rintro e w' ⟨v, d, m', G', rfl, hK', hvd, hi', hs'⟩
          exact rest hK' ((hr.step hs'.le hi').put o.dst hvd) (by rw [put_m]; exact hs')
        split at hK
        · exact hK.elim
        · rename_i hgt
          rw [if_pos (hgate1 hgt o rfl)]
          exact .inl (doC hK)
        · rename_i c b hgt
          rw [hgate2 c b hgt o rfl]
          by_cases hcb : c = b
          · rw [if_pos (by simp [hcb])]
            exact .inl (doC (hK.1 hcb))
          · rw [if_neg (by simp [hcb])]
            exact skip (hK.2 hcb)
      · exact hK.elim
    · rename_i op hno
      simp only [Option.map_eq_some_iff] at h1
      obtain ⟨i, hi, rfl⟩ := h1
      simp only [RegT] at hK
      split at hK
      · exact hK.elim
      · rename_i hgt
        obtain ⟨d, m', he, hK'⟩ := hK
        rw [if_pos (hgate1 hgt o rfl)]
        exact .inl (doI hi he hK')
      · rename_i c b hgt
        rw [hgate2 c b hgt o rfl]
        by_cases hcb : c = b
        · obtain ⟨d, m', he, hK'⟩ := hK.1 hcb
          rw [if_pos (by simp [hcb])]
          exact .inl (doI hi he hK')
        · rw [if_neg (by simp [hcb])]
          exact skip (hK.2 hcb)

theorem getD_set {listed : Array Bool} {i j : Nat} (hi : i < listed.size) (d : Bool) : (listed.setIfInBounds i true).getD j d = if j = i then true else listed.getD j d := by
  simp only [Array.getD_eq_getD_getElem?, Array.getElem?_setIfInBounds]
  by_cases h : i = j
  · subst h; simp [hi]
  · simp [h, Ne.symm h]

theorem befores_get {ops : Array Oper} {i : Nat} {o : Oper} (h : ops[i]? = some o) : (befores ops)[i]? = some ((o.after.toList.filter fun e => Region.binds .any e).map (·.on)) := by
  unfold befores
  rw [List.getElem?_map, Array.getElem?_toList, h]
  rfl

/-- What tailOk gives. -/
structure TailFacts (bs : List (List Nat)) (rl : List RI) (q : Nat) : Prop where
  len : bs.length = rl.length
  hq : q ≤ rl.length
  back : ∀ (i : Nat) b, bs[i]? = some b → ∀ e ∈ b, e < i
  tail : ∀ (i j : Nat), i < j → q ≤ j → j < rl.length → ((masks bs).getD j 0).testBit i = true

theorem tailOk_facts {bs : List (List Nat)} {rl : List RI} {cuts : List Nat} {q : Nat} (h : tailOk bs rl cuts q = true) :
    TailFacts bs rl q ∧ ∀ p ∈ cuts, ∀ (i j : Nat), i < p → p ≤ j → j < rl.length → ((masks bs).getD j 0).testBit i = true := by
  unfold tailOk at h
  simp only [Bool.and_eq_true, beq_iff_eq, decide_eq_true_eq, List.all_eq_true, List.mem_range, Bool.or_eq_true] at h
  obtain ⟨⟨⟨⟨h0, h1⟩, h2⟩, h3⟩, h4⟩ := h
  refine ⟨⟨h1, h2, ?_, ?_⟩, ?_⟩
  · intro i b hb e he
    have hi : i < bs.length := (List.getElem?_eq_some_iff.1 hb).1
    exact h3 i hi e (by rw [List.getD_eq_getElem?_getD, hb]; exact he)
  · intro i j hij hq hj
    rcases h4 j hj with h | h
    · omega
    · exact h i hij
  · intro p hp i j hi hj hjn
    rcases h0 p hp j hjn with h | h
    · omega
    · exact h i hi

/-- What drawOk gives. -/
structure DrawFacts (bs : List (List Nat)) (rl : List RI) (q : Nat) : Prop extends TailFacts bs rl q where
  cls : ∀ (j : Nat) y, j < q → rl[j]? = some y → y.cls ≤ 2
  apart : ∀ (i j : Nat) x y, i < j → j < q → rl[i]? = some x → rl[j]? = some y → clash x y = true → ((masks bs).getD j 0).testBit i = true

theorem drawOk_facts {bs : List (List Nat)} {rl : List RI} {q : Nat} (h : drawOk bs rl q = true) : DrawFacts bs rl q := by
  unfold drawOk at h
  simp only [Bool.and_eq_true, beq_iff_eq, decide_eq_true_eq, List.all_eq_true, List.mem_range] at h
  obtain ⟨⟨⟨h1, h2⟩, h3⟩, h4⟩ := h
  have hy : ∀ (j : Nat) y, rl[j]? = some y → j < rl.length := fun j y hj => (List.getElem?_eq_some_iff.1 hj).1
  refine ⟨⟨h1, h2, ?_, ?_⟩, ?_, ?_⟩
  rotate_left
  · intro i j hij hq hj
    have := h4 j hj
    rw [List.getElem?_eq_getElem hj] at this
    have hnq : ¬ j < q := by omega
    simp only [hnq, if_false, List.all_eq_true, List.mem_range] at this
    exact this i hij
  rotate_right
  · intro i b hb e he
    have hi : i < bs.length := (List.getElem?_eq_some_iff.1 hb).1
    have := h3 i hi e (by rw [List.getD_eq_getElem?_getD, hb]; exact he)
    exact this
  · intro j y hj hyj
    have := h4 j (hy j y hyj)
    rw [hyj] at this
    simp only [hj, if_true, Bool.and_eq_true, decide_eq_true_eq] at this
    exact this.1
  · intro i j x y hij hj hx hyj hcl
    have := h4 j (hy j y hyj)
    rw [hyj] at this
    simp only [hj, if_true, Bool.and_eq_true, decide_eq_true_eq, List.all_eq_true, List.mem_range] at this
    have := this.2 i hij
    rw [hx] at this
    simpa [hcl] using this

section
variable {ops : Array Oper} {Q : Exit → Act → World → Prop} {K : St → Prop} {rl : List RI} {q : Nat}

/-- The set that is listed. -/
def lset (listed : Array Bool) : Nat → Bool := fun i => listed.getD i false

theorem ready_facts (hf : TailFacts (befores ops) rl q) {listed : Array Bool} (hsz : listed.size = ops.size) (hcl : Closed (befores ops) (lset listed)) {i : Nat} (hi : i ∈ Region.ready .any ops listed) :
    i < ops.size ∧ lset listed i = false ∧ (∀ j, j ≠ i → ((masks (befores ops)).getD i 0).testBit j = true → lset listed j = true) ∧ Closed (befores ops) (lset (listed.setIfInBounds i true)) ∧
    (∀ j, lset (listed.setIfInBounds i true) j = (lset listed j || j == i)) := by
  obtain ⟨h0, o, ho, hall⟩ := mem_ready.1 hi
  have hlt : i < ops.size := (Array.getElem?_eq_some_iff.1 ho).1
  have hnot : lset listed i = false := by
    unfold lset
    simp only [Array.getD_eq_getD_getElem?] at h0 ⊢
    rw [Array.getElem?_eq_getElem (by omega)] at h0 ⊢
    simpa using h0
  have hset : ∀ j, lset (listed.setIfInBounds i true) j = (lset listed j || j == i) := by
    intro j
    unfold lset
    rw [getD_set (by omega)]
    by_cases h : j = i <;> simp [h]
  have hcl' : Closed (befores ops) (lset (listed.setIfInBounds i true)) := by
    intro j b hb hj e he
    rw [hset] at hj ⊢
    simp only [Bool.or_eq_true, beq_iff_eq] at hj ⊢
    rcases hj with hj | hj
    · exact .inl (hcl j b hb hj e he)
    · subst hj
      have hbo := befores_get ho
      rw [hb] at hbo
      injection hbo with hbo
      subst hbo
      simp only [List.mem_map, List.mem_filter, Array.mem_toList_iff] at he
      obtain ⟨ed, ⟨h1, h2⟩, rfl⟩ := he
      exact .inl (hall ed h1 h2)
  refine ⟨hlt, hnot, fun j hne hj => ?_, hcl', hset⟩
  have := masks_bit hcl' (e := i) (by rw [hset]; simp) hj
  rw [hset] at this
  simp only [Bool.or_eq_true, beq_iff_eq] at this
  rcases this with h | h
  · exact h
  · exact (hne h).elim

theorem least_ready (hf : TailFacts (befores ops) rl q) {listed : Array Bool} (hsz : listed.size = ops.size) (hno : Region.ready .any ops listed = []) : ∀ i, i < ops.size → lset listed i = true := by
  intro i
  induction i using Nat.strongRecOn with
  | _ i ih =>
    intro hi
    rcases hb : lset listed i with _ | _
    · exfalso
      have : i ∈ Region.ready .any ops listed := by
        refine mem_ready.2 ⟨?_, ops[i], Array.getElem?_eq_getElem hi, fun e he hbi => ?_⟩
        · unfold lset at hb
          simp only [Array.getD_eq_getD_getElem?] at hb ⊢
          rw [Array.getElem?_eq_getElem (by omega)] at hb ⊢
          simpa using hb
        · have hbo := befores_get (Array.getElem?_eq_getElem hi)
          have hlt := hf.back i _ hbo e.on (by
            simp only [List.mem_map, List.mem_filter, Array.mem_toList_iff]
            exact ⟨e, ⟨he, hbi⟩, rfl⟩)
          exact ih e.on hlt (by omega)
      rw [hno] at this
      cases this
    · rfl

/-- The operations that come after all, one by one. -/
theorem draw_tail (hc : compOps P ops ops.toList = some rl) (hf : TailFacts (befores ops) rl q) :
    ∀ (n r : Nat) (fuel : Nat) (listed : Array Bool) (s : St) (G : Gh) (w : World) (a : Act), ops.size - r = n → n ≤ fuel → q ≤ r → r ≤ ops.size → listed.size = ops.size → (∀ i, lset listed i = decide (i < r)) →
      RegT P (rl.drop r) K s → Rel G w a s → (∀ s' G' w' a', K s' → Rel G' w' a' s' → Step G w s.m G' w' s'.m → Q .normal a' w') → wpAny P .any ops Q fuel listed a w := by
  obtain ⟨hlen, hget⟩ := compOps_get hc
  simp only [Array.length_toList] at hlen
  have hclosed : ∀ (r : Nat) (L : Nat → Bool), (∀ i, L i = decide (i < r)) → Closed (befores ops) L := by
    intro r L hL i b hb hi e he
    have := hf.back i b hb e he
    rw [hL] at hi ⊢
    simp at hi ⊢
    omega
  intro n
  induction n with
  | zero =>
    intro r fuel listed s G w a hn hfuel hq hr hsz hL hK hrel hQ
    have hrn : r = ops.size := by omega
    have hnone : Region.ready .any ops listed = [] := by
      cases hre : Region.ready .any ops listed with
      | nil => rfl
      | cons i l =>
        obtain ⟨h1, h2, -⟩ := ready_facts hf hsz (hclosed r _ hL) (i := i) (by rw [hre]; simp)
        rw [hL] at h2
        simp at h2
        omega
    rw [List.drop_eq_nil_of_le (by omega)] at hK
    have hend := hQ s G w a hK hrel (Step.refl _ _ _)
    cases fuel with
    | zero => exact ⟨hnone, hend⟩
    | succ fuel => exact ⟨fun _ => hend, fun i hi => by rw [hnone] at hi; cases hi⟩
  | succ n ih =>
    intro r fuel listed s G w a hn hfuel hq hr hsz hL hK hrel hQ
    cases fuel with
    | zero => omega
    | succ fuel =>
      have hrlt : r < ops.size := by omega
      refine ⟨fun hno => ?_, fun i hi => ?_⟩
      · have := least_ready hf hsz hno r hrlt
        rw [hL] at this
        simp at this
      · obtain ⟨h1, h2, h3, h4, h5⟩ := ready_facts hf hsz (hclosed r _ hL) hi
        have hir : i = r := by
          rw [hL] at h2
          simp at h2
          rcases Nat.lt_or_ge r i with h | h
          · have := h3 r (by omega) (hf.tail r i h (by omega) (by omega))
            rw [hL] at this
            simp at this
          · omega
        subst hir
        have ho : ops[i]? = some ops[i] := Array.getElem?_eq_getElem h1
        obtain ⟨ri, hri, hco⟩ := hget i ops[i] (by rw [Array.getElem?_toList]; exact ho)
        have hri' : rl.drop i = ri :: rl.drop (i + 1) := by
          have hlt : i < rl.length := (List.getElem?_eq_some_iff.1 hri).1
          rw [List.drop_eq_getElem_cons hlt]
          congr 1
          exact (List.getElem?_eq_some_iff.1 hri).2
        rw [hri'] at hK
        refine regT_op hco hK hrel ho fun hK' hrel' hs' => ?_
        refine ih (i + 1) fuel (listed.setIfInBounds i true) _ _ _ _ (by omega) (by omega) (by omega) (by omega) (by simp [hsz]) (fun j => ?_) hK' hrel' fun s'' G'' w'' a'' k1 k2 k3 => hQ s'' G'' w'' a'' k1 k2 (hs'.trans k3)
        rw [h5, hL]
        rw [Bool.eq_iff_iff]
        simp
        omega

theorem tS_congr {dst : Nat → Option Tmp} {dd : Nat → D} {L L' : Nat → Bool} (t0 : List D) : ∀ n, (∀ j, j < n → L j = L' j) → tS dst dd L t0 n = tS dst dd L' t0 n
  | 0, _ => rfl
  | n + 1, h => by simp only [tS, h n (by omega), tS_congr t0 n fun j hj => h j (by omega)]

theorem mS_congr {xx : Nat → List Ent} {L L' : Nat → Bool} (m0 : List Ent) : ∀ n, (∀ j, j < n → L j = L' j) → mS xx L m0 n = mS xx L' m0 n
  | 0, _ => rfl
  | n + 1, h => by simp only [mS, h n (by omega), mS_congr m0 n fun j hj => h j (by omega)]

theorem stC_congr {os : List (D × List Ent)} {s0 : St} {L L' : Nat → Bool} (n : Nat) (h : ∀ j, j < n → L j = L' j) : stC rl os s0 L n = stC rl os s0 L' n := by
  unfold stC
  rw [tS_congr _ n h, mS_congr _ n h]

theorem count_tail (q : Nat) : ∀ n, ((List.range n).filter fun j => !decide (j < q)).length = n - q
  | 0 => by simp
  | n + 1 => by
    rw [List.range_succ, List.filter_append, List.length_append, count_tail q n]
    by_cases h : n < q
    · simp [h]; omega
    · simp [h]; omega

theorem getD_some {l : List RI} {i : Nat} (h : i < l.length) (d : RI) : l[i]? = some (l.getD i d) := by
  rw [List.getD_eq_getElem?_getD, List.getElem?_eq_getElem h]
  rfl

/-- The first operations, in any order that the edges allow; then the others. -/
theorem draw_head (hc : compOps P ops ops.toList = some rl) (hf : DrawFacts (befores ops) rl q) {os : List (D × List Ent)} {s0 : St}
    (hflo : ∀ i, i < q → FloStep P (rl.getD i (.op none none (.mv (.const undef)))) (stC rl os s0 (fun _ => true) i) (os.getD i (.dead, [])).1 (os.getD i (.dead, [])).2)
    (hmake : ∀ i, i < q → (os.getD i (.dead, [])).2 ≠ [] → (rl.getD i (.op none none (.mv (.const undef)))).cls = 2)
    (hT : RegT P (rl.drop q) K (stC rl os s0 (fun _ => true) q)) :
    ∀ (fuel : Nat) (listed : Array Bool) (G : Gh) (w : World) (a : Act), ((List.range ops.size).filter fun j => !lset listed j).length ≤ fuel → listed.size = ops.size → Closed (befores ops) (lset listed) →
      (∀ j, q ≤ j → lset listed j = false) → Rel G w a (stC rl os s0 (lset listed) q) →
      (∀ s' G' w' a', K s' → Rel G' w' a' s' → Step G w (stC rl os s0 (lset listed) q).m G' w' s'.m → Q .normal a' w') → wpAny P .any ops Q fuel listed a w := by
  obtain ⟨hlen, hget⟩ := compOps_get hc
  simp only [Array.length_toList] at hlen
  have hq := hf.hq
  intro fuel
  induction fuel with
  | zero =>
    intro listed G w a hcard hsz hcl htail hrel hQ
    have hall : ∀ i, i < ops.size → lset listed i = true := by
      intro i hi
      rcases hb : lset listed i with _ | _
      · exfalso
        have : i ∈ (List.range ops.size).filter fun j => !lset listed j := by simp [hi, hb]
        rw [List.eq_nil_of_length_eq_zero (Nat.le_zero.1 hcard)] at this
        cases this
      · rfl
    have hqn : q = ops.size := by
      rcases Nat.lt_or_ge q ops.size with h | h
      · have := hall q h
        rw [htail q (Nat.le_refl _)] at this
        cases this
      · omega
    have hst : stC rl os s0 (lset listed) q = stC rl os s0 (fun _ => true) q := stC_congr q fun j hj => hall j (by omega)
    refine draw_tail hc hf.toTailFacts 0 q 0 listed _ G w a (by omega) (Nat.le_refl _) (Nat.le_refl _) (by omega) hsz (fun i => ?_) hT (by rw [← hst]; exact hrel) (by rw [← hst]; exact hQ)
    rcases Nat.lt_or_ge i q with h | h
    · rw [hall i (by omega)]; simp [h]
    · rw [htail i h]; simp; omega
  | succ fuel ih =>
    intro listed G w a hcard hsz hcl htail hrel hQ
    by_cases hdone : ∀ j, j < q → lset listed j = true
    · -- all that may change places is done
      have hst : stC rl os s0 (lset listed) q = stC rl os s0 (fun _ => true) q := stC_congr q fun j hj => hdone j hj
      have hL : ∀ i, lset listed i = decide (i < q) := fun i => by
        rcases Nat.lt_or_ge i q with h | h
        · rw [hdone i h]; simp [h]
        · rw [htail i h]; simp; omega
      have hcnt := count_tail q ops.size
      simp only [hL] at hcard
      exact draw_tail hc hf.toTailFacts (ops.size - q) q (fuel + 1) listed _ G w a rfl (by omega) (Nat.le_refl _) (by omega) hsz hL hT (by rw [← hst]; exact hrel) (by rw [← hst]; exact hQ)
    · refine ⟨fun hno => (hdone fun j hj => least_ready hf.toTailFacts hsz hno j (by omega)).elim, fun i hi => ?_⟩
      obtain ⟨h1, h2, h3, h4, h5⟩ := ready_facts hf.toTailFacts hsz hcl hi
      have hiq : i < q := by
        rcases Nat.lt_or_ge i q with h | h
        · exact h
        · exact (hdone fun j hj => h3 j (by omega) (hf.tail j i (by omega) h (by omega))).elim
      have hri := getD_some (l := rl) (i := i) (by omega) (.op none none (.mv (.const undef)))
      obtain ⟨r, hr, hco⟩ := hget i ops[i] (by rw [Array.getElem?_toList]; exact Array.getElem?_eq_getElem h1)
      have hrr : rl.getD i (.op none none (.mv (.const undef))) = r := by rw [hr] at hri; injection hri with hri; exact hri.symm
      -- what is ordered
      have early : ∀ j x, j < i → rl[j]? = some x → clash x r = true → lset listed j = true := fun j x hj hx hcl' => h3 j (by omega) (hf.apart j i x r hj hiq hx hr hcl')
      have late : ∀ j y, i < j → j < q → rl[j]? = some y → clash r y = true → lset listed j = false := by
        intro j y hj hjq hy hcl'
        rcases hb : lset listed j with _ | _
        · rfl
        · have := masks_bit hcl hb (hf.apart i j r y hj hjq hr hy hcl')
          rw [h2] at this; cases this
      have hgetj : ∀ j, j < q → rl[j]? = some (rl.getD j (.op none none (.mv (.const undef)))) := fun j hj => getD_some (by omega) _
      have hF := hflo i hiq
      rw [hrr] at hF
      have hclsr : r.cls ≤ 2 := hf.cls i r hiq hr
      have hmk : ∀ j, j < q → (os.getD j (.dead, [])).2 ≠ [] → (rl.getD j (.op none none (.mv (.const undef)))).cls = 2 := hmake
      have hclash2 : ∀ x y : RI, x.cls = 2 → y.cls = 2 → clash x y = true := fun x y hx hy => by simp [clash, hx, hy]
      refine flo_op hco hF (s := stC rl os s0 (lset listed) q) ?_ ?_ ?_ hclsr hrel (Array.getElem?_eq_getElem h1) ?_
      · -- the slots that it reads
        intro y hy
        refine tS_reads s0.t (by omega) fun j hj hd => ?_
        have hxj := hgetj j hj
        constructor
        · intro hLj
          rcases Nat.lt_or_ge j i with h | h
          · exact h
          · exfalso
            rcases Nat.eq_or_lt_of_le h with h | h
            · rw [← h, h2] at hLj; cases hLj
            · have := late j _ h hj hxj (by
                simp only [clash, hd, Bool.or_eq_true]
                refine .inl (.inr ?_)
                simpa using hy)
              rw [this] at hLj; cases hLj
        · intro hji
          exact early j _ hji hxj (by
            simp only [clash, hd, Bool.or_eq_true]
            refine .inl (.inl (.inl ?_))
            simpa using hy)
      · -- the resources, where it makes one
        intro hcls
        refine mS_exact s0.m (by omega) fun j hj hx => ?_
        have hxj := hgetj j hj
        have hcj := hmk j hj hx
        constructor
        · intro hLj
          rcases Nat.lt_or_ge j i with h | h
          · exact h
          · exfalso
            rcases Nat.eq_or_lt_of_le h with h | h
            · rw [← h, h2] at hLj; cases hLj
            · have := late j _ h hj hxj (hclash2 _ _ hcls hcj)
              rw [this] at hLj; cases hLj
        · intro hji
          exact early j _ hji hxj (hclash2 _ _ hcj hcls)
      · -- the resources that it reads
        rintro id ⟨e, he⟩ hid
        obtain ⟨k, hk, hmk'⟩ := mS_prefix (xx := fun i => (os.getD i (.dead, [])).2) (L := lset listed) s0.m q fun i1 j1 hij hj hx1 hx2 hL1 =>
          masks_bit hcl hL1 (hf.apart i1 j1 _ _ hij hj (hgetj i1 (by omega)) (hgetj j1 hj) (hclash2 _ _ (hmk i1 (by omega) hx1) (hmk j1 hj hx2)))
        simp only [stC] at he hid ⊢
        rw [hmk'] at hid ⊢
        rcases Nat.le_total i k with h | h
        · obtain ⟨rr, hrr'⟩ := mS_mono (xx := fun i => (os.getD i (.dead, [])).2) s0.m h
          rw [hrr', List.getElem?_append_left (List.getElem?_eq_some_iff.1 he).1]
        · obtain ⟨rr, hrr'⟩ := mS_mono (xx := fun i => (os.getD i (.dead, [])).2) s0.m h
          rw [hrr', List.getElem?_append_left hid]
      · -- and on
        intro G' w' a' hrel' hs'
        have hst : after (stC rl os s0 (lset listed) q) r (os.getD i (.dead, [])).1 (os.getD i (.dead, [])).2 = stC rl os s0 (lset (listed.setIfInBounds i true)) q := by
          obtain ⟨ha1, ha2⟩ := after_t (stC rl os s0 (lset listed) q) r (os.getD i (.dead, [])).1 (os.getD i (.dead, [])).2
          have heta : ∀ z : St, z = ⟨z.t, z.m⟩ := fun z => rfl
          rw [heta (after _ _ _ _), ha1, ha2]
          simp only [stC, St.mk.injEq]
          constructor
          · rw [tS_step s0.t h2 h5 hiq ?_]
            · simp only [hrr]
            · intro j hij hjq y hdi hdj
              rw [hrr] at hdi
              exact late j _ hij hjq (hgetj j hjq) (by
                simp only [clash, hdi, hdj, Bool.or_eq_true]
                exact .inl (.inl (.inr (by simp))))
          · rw [mS_step s0.m h2 h5 hiq ?_]
            intro j hij hjq hx1 hx2
            have := hmk i hiq hx1
            rw [hrr] at this
            exact late j _ hij hjq (hgetj j hjq) (hclash2 _ _ this (hmk j hjq hx2))
        rw [hst] at hrel'
        refine ih (listed.setIfInBounds i true) G' w' a' ?_ (by simp [hsz]) h4 ?_ hrel' ?_
        · have := filter_lt h2 h5 (l := List.range ops.size) (by simp [h1])
          omega
        · intro j hj
          rw [h5, htail j hj]
          simp
          omega
        · intro s'' G'' w'' a'' k1 k2 k3
          refine hQ s'' G'' w'' a'' k1 k2 (hs'.trans ?_)
          have hm' : (stC rl os s0 (lset listed) q).m ++ (os.getD i (.dead, [])).2 = (stC rl os s0 (lset (listed.setIfInBounds i true)) q).m := by
            rw [← hst]; exact (after_t _ _ _ _).2.symm
          rw [hm']
          exact k3

theorem floStep_make {r : RI} {s : St} {d : D} {x : List Ent} (h : FloStep P r s d x) (hcl : r.cls ≤ 2) (hx : x ≠ []) : r.cls = 2 := by
  cases r with
  | call dst g f args =>
    obtain ⟨_, _, _, _, h, _⟩ := h
    exact (hx h).elim
  | op dst g i =>
    rcases h with ⟨-, h⟩ | ⟨-, -, h⟩
    · simp only [RI.cls] at hcl ⊢
      rcases Nat.lt_or_ge i.cls 2 with h2 | h2
      · obtain ⟨hm, -⟩ := evalI_congr (s := s) (s' := s) (by omega) (fun _ _ => rfl) (fun _ _ _ _ => rfl) h
        exfalso
        have := congrArg List.length hm
        simp at this
        exact hx this
      · omega
    · exact (hx h).elim

/-- **A region whose order is open.** -/
theorem draw_sound (hmix : P.follows .mixedOrders = true) (hc : compOps P ops ops.toList = some rl) (hok : drawOk (befores ops) rl q = true) {s s1 : St} {os : List (D × List Ent)} (hF : Flo P (rl.take q) s os s1) (hT : RegT P (rl.drop q) K s1)
    {id : Nat} {G : Gh} {w : World} {a : Act} (hr : Rel G w a s) (hQ : ∀ s' G' w' a', K s' → Rel G' w' a' s' → Step G w s.m G' w' s'.m → Q .normal a' w') : (Code.region id ops true).wp P Q a w := by
  have hf := drawOk_facts hok
  have hlenT : (rl.take q).length = q := by rw [List.length_take]; have := hf.hq; omega
  have hlenO := hF.length
  rw [hlenT] at hlenO
  have h0 : stC rl os s (fun _ => true) 0 = s := rfl
  obtain ⟨g1, g2⟩ := Flo.get (rl := rl) (os := os) (s0 := s) (k := 0) (l := rl.take q) (os' := os) (s' := s1) (by rw [List.drop_zero, hlenT]) (by rw [List.drop_zero, List.take_length]) (by rw [h0]; exact hF)
  simp only [hlenT, Nat.zero_add] at g1 g2
  subst g2
  have hL0 : ∀ j, lset (Array.replicate ops.size false) j = false := by
    intro j
    unfold lset
    simp only [Array.getD_eq_getD_getElem?, Array.getElem?_replicate]
    split <;> rfl
  have hst0 : stC rl os s (lset (Array.replicate ops.size false)) q = s := by
    have ht : ∀ n, tS (fun i => (rl.getD i (.op none none (.mv (.const undef)))).dst) (fun i => (os.getD i (.dead, [])).1) (lset (Array.replicate ops.size false)) s.t n = s.t := by
      intro n
      induction n with
      | zero => rfl
      | succ n ih => simp only [tS, hL0, Bool.false_eq_true, if_false, ih]
    have hm : ∀ n, mS (fun i => (os.getD i (.dead, [])).2) (lset (Array.replicate ops.size false)) s.m n = s.m := by
      intro n
      induction n with
      | zero => rfl
      | succ n ih => simp only [mS, hL0, Bool.false_eq_true, if_false, ih]
    unfold stC
    rw [ht, hm]
  refine wp_region_any hmix ?_
  have hs := Same.drew w
  refine draw_head hc hf g1 (fun i hi hx => floStep_make (g1 i hi) (hf.cls i _ hi (getD_some (by have := hf.hq; omega) _)) hx) hT ops.size _ G _ a ?_ (by simp) ?_ (fun j _ => hL0 j) ?_ ?_
  · have := List.length_filter_le (fun j => !lset (Array.replicate ops.size false) j) (List.range ops.size)
    simpa using this
  · intro i b _ hi
    rw [hL0] at hi; cases hi
  · rw [hst0]
    exact ⟨hr.t.mono (hs.le G), hs.inv hr.inv, hr.defers⟩
  · intro s' G' w' a' k1 k2 k3
    rw [hst0] at k3
    exact hQ s' G' w' a' k1 k2 ((hs.step G s.m).trans k3)
end
end
end Go.Tm
