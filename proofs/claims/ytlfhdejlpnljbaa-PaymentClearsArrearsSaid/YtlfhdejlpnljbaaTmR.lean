/-
  Code as one statement on trees, for simp to write out.
-/
import Derived.Test.YtlfhdejlpnljbaaTmV
set_option linter.unusedSimpArgs false
set_option linter.unusedVariables false
namespace Go.Tm
section
variable {P : Program} {N : Nat}

/-- A region whose order is open: its first q operations may change places, the others come behind. -/
def DrT (P : Program) : Nat → List RI → (St → Prop) → St → Prop
  | 0, l, K, s => RegT P l K s
  | _ + 1, [], _, _ => False
  | q + 1, .op dst g i :: l, K, s =>
    match gate s g with
    | none => False
    | some none => ∃ d m', evalI s i = some (d, m') ∧ DrT P q l K ({ s with m := m' }.put dst d)
    | some (some (c, b)) => (c = b → ∃ d m', evalI s i = some (d, m') ∧ DrT P q l K ({ s with m := m' }.put dst d)) ∧ (c ≠ b → DrT P q l K (s.put dst (.v undef)))
  | q + 1, .call dst g f args :: l, K, s =>
    match s.ev f with
    | .fn k first caps =>
      match gate s g with
      | none => False
      | some none => ∃ d, (∀ m, CallT P k (first ++ args.map s.ev ++ caps) m fun d' m' => d' = d ∧ m' = m) ∧ DrT P q l K (s.put dst d)
      | some (some (c, b)) => (c = b → ∃ d, (∀ m, CallT P k (first ++ args.map s.ev ++ caps) m fun d' m' => d' = d ∧ m' = m) ∧ DrT P q l K (s.put dst d)) ∧ (c ≠ b → DrT P q l K (s.put dst (.v undef)))
    | _ => False

/-- The operations, of the first q, that may come next. -/
def readyL (bs : List (List Nat)) (q : Nat) (L : List Bool) : List Nat :=
  (List.range q).filter fun i => !L.getD i true && (bs.getD i []).all fun e => L.getD e false

/-- The first q operations in every order that the edges leave. -/
def AnyQ (P : Program) (bs : List (List Nat)) (rl : List RI) (q : Nat) (K : St → Prop) : Nat → List Bool → St → Prop
  | 0, _, _ => False
  | n + 1, L, s => (readyL bs q L = [] → K s) ∧ ∀ i ∈ readyL bs q L, RegT P (rl[i]?).toList (AnyQ P bs rl q K n (L.set i true)) s

theorem regT_mono {K K' : St → Prop} (h : ∀ s, K s → K' s) : ∀ {l : List RI} {s : St}, RegT P l K s → RegT P l K' s
  | [], s, hk => h s hk
  | .op dst g i :: l, s, hk => by
    simp only [RegT] at hk ⊢
    split at hk
    · exact hk.elim
    · obtain ⟨d, m', h1, h2⟩ := hk
      exact ⟨d, m', h1, regT_mono h h2⟩
    · refine ⟨fun e => ?_, fun e => regT_mono h (hk.2 e)⟩
      obtain ⟨d, m', h1, h2⟩ := hk.1 e
      exact ⟨d, m', h1, regT_mono h h2⟩
  | .call dst g f args :: l, s, hk => by
    simp only [RegT] at hk ⊢
    split at hk
    · split at hk
      · exact hk.elim
      · exact hk.mono fun _ _ h2 => regT_mono h h2
      · exact ⟨fun e => (hk.1 e).mono fun _ _ h2 => regT_mono h h2, fun e => regT_mono h (hk.2 e)⟩
    · exact hk.elim

theorem AnyQ.mono {bs : List (List Nat)} {rl : List RI} {q : Nat} {K K' : St → Prop} (h : ∀ s, K s → K' s) : ∀ {n : Nat} {L : List Bool} {s : St}, AnyQ P bs rl q K n L s → AnyQ P bs rl q K' n L s
  | 0, _, _, hk => hk.elim
  | n + 1, L, s, hk => by
    simp only [AnyQ] at hk ⊢
    exact ⟨fun e => h s (hk.1 e), fun i hi => regT_mono (fun s' h' => AnyQ.mono h h') (hk.2 i hi)⟩

/-- Segment by segment; then what comes behind all. -/
def AnyC (P : Program) (bs : List (List Nat)) (rl : List RI) (K : St → Prop) : List Nat → Nat → St → Prop
  | [], lo, s => RegT P (rl.drop lo) K s
  | p :: ps, lo, s => AnyQ P bs rl p (AnyC P bs rl K ps p) (p + 1) (List.replicate lo true ++ List.replicate (p - lo) false) s

section
variable {ops : Array Oper} {Q : Exit → Act → World → Prop} {K : St → Prop} {rl : List RI} {q : Nat}

theorem any_step (hc : compOps P ops ops.toList = some rl) (hf : TailFacts (befores ops) rl q) (hlen : rl.length = ops.size) (hget : ∀ (i : Nat) o, ops.toList[i]? = some o → ∃ r, rl[i]? = some r ∧ compOp P ops o = some r) {p : Nat} {ps : List Nat}
    (hcut : ∀ x ∈ p :: ps, ∀ (i j : Nat), i < x → x ≤ j → j < rl.length → ((masks (befores ops)).getD j 0).testBit i = true) (hp : p ≤ ops.size)
    {listed : Array Bool} {L : List Bool} {n : Nat} {s : St} {G : Gh} {w : World} {a : Act} {K' : St → Prop} {Kx : Act → World → Prop} (hsz : listed.size = ops.size) (hcl : Closed (befores ops) (lset listed))
    (htail : ∀ j, p ≤ j → lset listed j = false) (hLn : L.length = p) (hL : ∀ j, j < p → L[j]? = some (lset listed j)) (hA : AnyQ P (befores ops) rl p K' (n + 1) L s) (hrel : Rel G w a s) (hdone : ¬ ∀ j, j < p → lset listed j = true)
    {i : Nat} (hi : i ∈ Region.ready .any ops listed)
    (rest : ∀ {G' : Gh} {w' : World} {a' : Act} {s' : St}, ((List.range ops.size).filter fun j => !lset (listed.setIfInBounds i true) j).length < ((List.range ops.size).filter fun j => !lset listed j).length → (listed.setIfInBounds i true).size = ops.size →
      Closed (befores ops) (lset (listed.setIfInBounds i true)) → (∀ j, p ≤ j → lset (listed.setIfInBounds i true) j = false) → (L.set i true).length = p → (∀ j, j < p → (L.set i true)[j]? = some (lset (listed.setIfInBounds i true) j)) →
      AnyQ P (befores ops) rl p K' n (L.set i true) s' → Rel G' w' a' s' → Step G w s.m G' w' s'.m → Kx a' w') : wpOp P ops Q i Kx a w := by
  obtain ⟨h1, h2, h3, h4, h5⟩ := ready_facts hf hsz hcl hi
  have hiq : i < p := by
    rcases Nat.lt_or_ge i p with h | h
    · exact h
    · exact (hdone fun j hj => h3 j (by omega) (hcut p (by simp) j i hj h (by omega))).elim
  have ho : ops[i]? = some ops[i] := Array.getElem?_eq_getElem h1
  obtain ⟨ri, hri, hco⟩ := hget i ops[i] (by rw [Array.getElem?_toList]; exact ho)
  have hmem : i ∈ readyL (befores ops) p L := by
    refine List.mem_filter.2 ⟨List.mem_range.2 hiq, ?_⟩
    have hbo := befores_get ho
    simp only [List.getD_eq_getElem?_getD, hL i hiq, hbo, h2, Option.getD_some, Bool.not_false, Bool.true_and, List.all_eq_true]
    intro e he
    have hlt := hf.back i _ hbo e he
    rw [hL e (by omega)]
    simp only [Option.getD_some]
    have := h4 i _ hbo (by rw [h5]; simp) e he
    rw [h5] at this
    simpa [show ¬ e = i by omega] using this
  have hR := hA.2 i hmem
  rw [hri] at hR
  refine regT_op hco hR hrel ho fun hK' hrel' hs' => ?_
  refine rest ?_ (by simp [hsz]) h4 ?_ (by simp [hLn]) ?_ hK' hrel' hs'
  · exact filter_lt h2 h5 (l := List.range ops.size) (by simp [h1])
  · intro j hj
    rw [h5, htail j hj]
    simp
    omega
  · intro j hj
    rw [h5, List.getElem?_set]
    by_cases hji : i = j
    · subst hji; simp [hLn, hiq]
    · simp [hji, hL j hj, Ne.symm hji]

theorem any_head (hc : compOps P ops ops.toList = some rl) (hf : TailFacts (befores ops) rl q) :
    ∀ (ps : List Nat) (p : Nat), (p :: ps).getLastD 0 = q → (∀ x ∈ p :: ps, ∀ (i j : Nat), i < x → x ≤ j → j < rl.length → ((masks (befores ops)).getD j 0).testBit i = true) → p ≤ ops.size → (p :: ps).Pairwise (· ≤ ·) →
    ∀ (fuel : Nat) (listed : Array Bool) (L : List Bool) (n : Nat) (s : St) (G : Gh) (w : World) (a : Act), ((List.range ops.size).filter fun j => !lset listed j).length ≤ fuel → listed.size = ops.size → Closed (befores ops) (lset listed) →
      (∀ j, p ≤ j → lset listed j = false) → L.length = p → (∀ j, j < p → L[j]? = some (lset listed j)) → AnyQ P (befores ops) rl p (AnyC P (befores ops) rl K ps p) n L s → Rel G w a s →
      (∀ s' G' w' a', K s' → Rel G' w' a' s' → Step G w s.m G' w' s'.m → Q .normal a' w') → wpAny P .any ops Q fuel listed a w := by
  obtain ⟨hlen, hget⟩ := compOps_get hc
  simp only [Array.length_toList] at hlen
  have hqn := hf.hq
  intro ps
  induction ps with
  | nil =>
    intro p hlast hcut hp hpw
    simp only [List.getLastD_cons, List.getLastD_nil] at hlast
    subst hlast
    intro fuel
    induction fuel with
    | zero =>
      intro listed L n s G w a hcard hsz hcl htail hLn hL hA hrel hQ
      have hall : ∀ i, i < ops.size → lset listed i = true := by
        intro i hi
        rcases hb : lset listed i with _ | _
        · exfalso
          have : i ∈ (List.range ops.size).filter fun j => !lset listed j := by simp [hi, hb]
          rw [List.eq_nil_of_length_eq_zero (Nat.le_zero.1 hcard)] at this
          cases this
        · rfl
      have hqn : p = ops.size := by
        rcases Nat.lt_or_ge p ops.size with h | h
        · have := hall p h
          rw [htail p (Nat.le_refl _)] at this
          cases this
        · omega
      have hT : RegT P (rl.drop p) K s := by
        cases n with
        | zero => exact hA.elim
        | succ n =>
          refine hA.1 (List.filter_eq_nil_iff.2 fun j hj => ?_)
          have hj := List.mem_range.1 hj
          simp [List.getD_eq_getElem?_getD, hL j hj, hall j (by omega)]
      refine draw_tail hc hf 0 p 0 listed _ G w a (by omega) (Nat.le_refl _) (Nat.le_refl _) (by omega) hsz (fun i => ?_) hT hrel hQ
      rcases Nat.lt_or_ge i p with h | h
      · rw [hall i (by omega)]; simp [h]
      · rw [htail i h]; simp; omega
    | succ fuel ih =>
      intro listed L n s G w a hcard hsz hcl htail hLn hL hA hrel hQ
      cases n with
      | zero => exact hA.elim
      | succ n =>
        by_cases hdone : ∀ j, j < p → lset listed j = true
        · have hLq : ∀ i, lset listed i = decide (i < p) := fun i => by
            rcases Nat.lt_or_ge i p with h | h
            · rw [hdone i h]; simp [h]
            · rw [htail i h]; simp; omega
          have hcnt := count_tail p ops.size
          simp only [hLq] at hcard
          refine draw_tail hc hf (ops.size - p) p (fuel + 1) listed _ G w a rfl (by omega) (Nat.le_refl _) (by omega) hsz hLq ?_ hrel hQ
          refine hA.1 (List.filter_eq_nil_iff.2 fun j hj => ?_)
          have hj := List.mem_range.1 hj
          simp [List.getD_eq_getElem?_getD, hL j hj, hdone j hj]
        · refine ⟨fun hno => (hdone fun j hj => least_ready hf hsz hno j (by omega)).elim, fun i hi => ?_⟩
          exact any_step hc hf hlen hget hcut hp hsz hcl htail hLn hL hA hrel hdone hi fun hcard' hsz' hcl' htail' hLn' hL' hA' hrel' hs' =>
            ih _ _ _ _ _ _ _ (by omega) hsz' hcl' htail' hLn' hL' hA' hrel' fun s'' G'' w'' a'' k1 k2 k3 => hQ s'' G'' w'' a'' k1 k2 (hs'.trans k3)
  | cons p' ps ihp =>
    intro p hlast hcut hp hpw
    have hpp : p ≤ p' := (List.pairwise_cons.1 hpw).1 p' (by simp)
    have hp' : p' ≤ ops.size := by
      have hmem : ∀ x ∈ p' :: ps, x ≤ q := by
        have hq' : (p' :: ps).getLastD 0 = q := by simpa using hlast
        intro x hx
        have hne : (p' :: ps) ≠ [] := by simp
        rw [List.getLastD_eq_getLast?, List.getLast?_eq_some_getLast hne] at hq'
        simp only [Option.getD_some] at hq'
        rw [← hq']
        have hpw' := (List.pairwise_cons.1 hpw).2
        have hdl : (p' :: ps).dropLast ++ [(p' :: ps).getLast hne] = p' :: ps := List.dropLast_concat_getLast hne
        rw [← hdl] at hx hpw'
        rcases List.mem_append.1 hx with hx | hx
        · exact (List.pairwise_append.1 hpw').2.2 x hx _ (by simp)
        · simp at hx; omega
      have := hmem p' (by simp)
      omega
    intro fuel
    induction fuel with
    | zero =>
      intro listed L n s G w a hcard hsz hcl htail hLn hL hA hrel hQ
      have hall : ∀ i, i < ops.size → lset listed i = true := by
        intro i hi
        rcases hb : lset listed i with _ | _
        · exfalso
          have : i ∈ (List.range ops.size).filter fun j => !lset listed j := by simp [hi, hb]
          rw [List.eq_nil_of_length_eq_zero (Nat.le_zero.1 hcard)] at this
          cases this
        · rfl
      have hK : AnyC P (befores ops) rl K (p' :: ps) p s := by
        cases n with
        | zero => exact hA.elim
        | succ n =>
          refine hA.1 (List.filter_eq_nil_iff.2 fun j hj => ?_)
          have hj := List.mem_range.1 hj
          simp [List.getD_eq_getElem?_getD, hL j hj, hall j (by omega)]
      refine ihp p' (by simpa using hlast) (fun x hx => hcut x (by simp at hx ⊢; exact .inr hx)) hp' (List.pairwise_cons.1 hpw).2 0 listed _ _ s G w a hcard hsz hcl (fun j hj => htail j (by omega)) (by simp; omega) ?_ hK hrel hQ
      intro j hj
      rw [List.getElem?_append]
      rcases Nat.lt_or_ge j p with h | h
      · rw [if_pos (by simpa using h), List.getElem?_replicate, if_pos h, hall j (by omega)]
      · rw [if_neg (by simp; omega), List.getElem?_replicate, if_pos (by simp; omega), htail j h]
    | succ fuel ih =>
      intro listed L n s G w a hcard hsz hcl htail hLn hL hA hrel hQ
      cases n with
      | zero => exact hA.elim
      | succ n =>
        by_cases hdone : ∀ j, j < p → lset listed j = true
        · have hK : AnyC P (befores ops) rl K (p' :: ps) p s := by
            refine hA.1 (List.filter_eq_nil_iff.2 fun j hj => ?_)
            have hj := List.mem_range.1 hj
            simp [List.getD_eq_getElem?_getD, hL j hj, hdone j hj]
          refine ihp p' (by simpa using hlast) (fun x hx => hcut x (by simp at hx ⊢; exact .inr hx)) hp' (List.pairwise_cons.1 hpw).2 (fuel + 1) listed _ _ s G w a hcard hsz hcl (fun j hj => htail j (by omega)) (by simp; omega) ?_ hK hrel hQ
          intro j hj
          rw [List.getElem?_append]
          rcases Nat.lt_or_ge j p with h | h
          · rw [if_pos (by simpa using h), List.getElem?_replicate, if_pos h, hdone j h]
          · rw [if_neg (by simp; omega), List.getElem?_replicate, if_pos (by simp; omega), htail j h]
        · refine ⟨fun hno => (hdone fun j hj => least_ready hf hsz hno j (by omega)).elim, fun i hi => ?_⟩
          exact any_step hc hf hlen hget hcut hp hsz hcl htail hLn hL hA hrel hdone hi fun hcard' hsz' hcl' htail' hLn' hL' hA' hrel' hs' =>
            ih _ _ _ _ _ _ _ (by omega) hsz' hcl' htail' hLn' hL' hA' hrel' fun s'' G'' w'' a'' k1 k2 k3 => hQ s'' G'' w'' a'' k1 k2 (hs'.trans k3)

theorem any_sound (hmix : P.follows .mixedOrders = true) (hc : compOps P ops ops.toList = some rl) {cuts : List Nat} (hok : tailOk (befores ops) rl cuts q = true) (hpw : (cuts ++ [q]).Pairwise (· ≤ ·)) {s : St} (hA : AnyC P (befores ops) rl K (cuts ++ [q]) 0 s)
    {id : Nat} {G : Gh} {w : World} {a : Act} (hr : Rel G w a s) (hQ : ∀ s' G' w' a', K s' → Rel G' w' a' s' → Step G w s.m G' w' s'.m → Q .normal a' w') : (Code.region id ops true).wp P Q a w := by
  obtain ⟨hf, hcuts⟩ := tailOk_facts hok
  obtain ⟨hlen, hget⟩ := compOps_get hc
  simp only [Array.length_toList] at hlen
  have hL0 : ∀ j, lset (Array.replicate ops.size false) j = false := by
    intro j
    unfold lset
    simp only [Array.getD_eq_getD_getElem?, Array.getElem?_replicate]
    split <;> rfl
  refine wp_region_any hmix ?_
  have hs := Same.drew w
  have hall : ∀ x ∈ cuts ++ [q], ∀ (i j : Nat), i < x → x ≤ j → j < rl.length → ((masks (befores ops)).getD j 0).testBit i = true := by
    intro x hx i j hi hj hjn
    rcases List.mem_append.1 hx with h | h
    · exact hcuts x h i j hi hj hjn
    · simp at h; subst h; exact hf.tail i j (by omega) hj hjn
  have hle : ∀ x ∈ cuts ++ [q], x ≤ ops.size := by
    intro x hx
    have hqn := hf.hq
    rcases List.mem_append.1 hx with h | h
    · have := (List.pairwise_append.1 hpw).2.2 x h q (by simp)
      omega
    · simp at h; omega
  cases hcc : cuts ++ [q] with
  | nil => simp at hcc
  | cons p ps =>
    rw [hcc] at hA hall hle hpw
    have hlast : (p :: ps).getLastD 0 = q := by rw [← hcc]; simp
    refine any_head hc hf ps p hlast hall (hle p (by simp)) hpw ops.size _ _ _ _ G _ a ?_ (by simp) ?_ (fun j _ => hL0 j) (by simp) ?_ hA ?_ ?_
    · have := List.length_filter_le (fun j => !lset (Array.replicate ops.size false) j) (List.range ops.size)
      simpa using this
    · intro i b _ hi
      rw [hL0] at hi; cases hi
    · intro j hj
      simp [hL0, List.getElem?_replicate, hj]
    · exact ⟨hr.t.mono (hs.le G), hs.inv hr.inv, hr.defers⟩
    · intro s' G' w' a' k1 k2 k3
      exact hQ s' G' w' a' k1 k2 ((hs.step G s.m).trans k3)
end

theorem AnyC.mono {bs : List (List Nat)} {rl : List RI} {K K' : St → Prop} (h : ∀ s, K s → K' s) : ∀ {ps : List Nat} {lo : Nat} {s : St}, AnyC P bs rl K ps lo s → AnyC P bs rl K' ps lo s
  | [], _, _, hk => regT_mono h hk
  | _ :: _, _, _, hk => AnyQ.mono (fun _ h' => AnyC.mono h h') hk

/-- Are the numbers in order. -/
def sorted : List Nat → Bool
  | [] => true
  | a :: l => l.all (fun b => decide (a ≤ b)) && sorted l

theorem sorted_pw : ∀ {l : List Nat}, sorted l = true → l.Pairwise (· ≤ ·)
  | [], _ => List.Pairwise.nil
  | a :: l, h => by
    simp only [sorted, Bool.and_eq_true, List.all_eq_true, decide_eq_true_eq] at h
    exact List.pairwise_cons.2 ⟨h.1, sorted_pw h.2⟩

theorem T.any {cuts : List Nat} {q : Nat} {bs : List (List Nat)} {l : List RI} {K : Exit → St → Prop} {s : St} (hm : P.follows .mixedOrders = true) (hso : sorted (cuts ++ [q]) = true) (h : AnyC P bs l (K .normal) (cuts ++ [q]) 0 s) : T P N (.any cuts q bs l) K s := by
  intro code hc G w a hN hr
  obtain ⟨id, ops, rfl, rfl, hc', hok⟩ := comp_any hc
  exact any_sound hm hc' hok (sorted_pw hso) h hr fun s' G' w' a' k1 k2 k3 => ⟨s', G', k1, k2, k3.toN hN⟩

/-- What is left to show once code's own forms are taken apart. -/
def X (P : Program) (N : Nat) : C → (Exit → St → Prop) → St → Prop
  | .skip, K, s => K .normal s
  | .reg l, K, s => RegT P l (K .normal) s
  | .draw q l, K, s => P.follows .mixedOrders = true ∧ DrT P q l (K .normal) s
  | .any cuts q bs l, K, s => P.follows .mixedOrders = true ∧ sorted (cuts ++ [q]) = true ∧ AnyC P bs l (K .normal) (cuts ++ [q]) 0 s
  | .seq a b, K, s => X P N a (fun e s' => match e with | .normal => X P N b K s' | e => K e s') s
  | .cond c a b, K, s =>
    match s.ev c with
    | .v (.bool t) => (t = true → X P N a K s) ∧ (t = false → X P N b K s)
    | _ => False
  | .block id a, K, s => X P N a (fun e s' => match e with | .exit id' => if id' = id then K .normal s' else K (.exit id') s' | e => K e s') s
  | .loop a, K, s => T P N (.loop a) K s
  | .exit id, K, s => K (.exit id) s
  | .ret, K, s => K .ret s

theorem drT_flo : ∀ {q : Nat} {l : List RI} {K : St → Prop} {s : St}, DrT P q l K s → (∀ (j : Nat) y, j < q → l[j]? = some y → y.cls ≤ 2) → ∃ os s1, Flo P (l.take q) s os s1 ∧ RegT P (l.drop q) K s1
  | 0, l, K, s, h, _ => ⟨[], s, by simp [Flo], by simpa [DrT] using h⟩
  | q + 1, [], K, s, h, _ => by simp [DrT] at h
  | q + 1, .op dst g i :: l, K, s, h, hc => by
    have hci : i.cls ≤ 2 := hc 0 _ (by omega) rfl
    have hc' : ∀ (j : Nat) y, j < q → l[j]? = some y → y.cls ≤ 2 := fun j y hj hy => hc (j + 1) y (by omega) (by simpa using hy)
    have ext : ∀ {d : D} {m' : List Ent}, evalI s i = some (d, m') → ∃ x, m' = s.m ++ x := fun {d m'} he => by
      rcases Nat.lt_or_ge i.cls 2 with h2 | h2
      · exact ⟨[], by rw [List.append_nil]; exact (evalI_congr (s := s) (s' := s) (by omega) (fun _ _ => rfl) (fun _ _ _ _ => rfl) he).1⟩
      · obtain ⟨-, e, h⟩ := evalI_make (s := s) (s' := s) (by omega) (fun _ _ => rfl) rfl he
        exact ⟨[e], h⟩
    have on : ∀ {d : D} {m' : List Ent}, evalI s i = some (d, m') → (gate s g = some none ∨ ∃ c, gate s g = some (some (c, c))) → DrT P q l K ({ s with m := m' }.put dst d) →
        ∃ os s1, Flo P ((RI.op dst g i :: l).take (q + 1)) s os s1 ∧ RegT P ((RI.op dst g i :: l).drop (q + 1)) K s1 := by
      intro d m' he hg hD
      obtain ⟨x, rfl⟩ := ext he
      obtain ⟨os, s1, h1, h2⟩ := drT_flo hD hc'
      exact ⟨(d, x) :: os, s1, by simp only [List.take_succ_cons, Flo]; exact ⟨d, x, os, rfl, .inl ⟨hg, he⟩, h1⟩, by simpa using h2⟩
    simp only [DrT] at h
    split at h
    · exact h.elim
    · rename_i hg
      obtain ⟨d, m', he, hD⟩ := h
      exact on he (.inl hg) hD
    · rename_i c b hg
      by_cases hcb : c = b
      · subst hcb
        obtain ⟨d, m', he, hD⟩ := h.1 rfl
        exact on he (.inr ⟨c, hg⟩) hD
      · obtain ⟨os, s1, h1, h2⟩ := drT_flo (h.2 hcb) hc'
        refine ⟨(.v undef, []) :: os, s1, ?_, by simpa using h2⟩
        simp only [List.take_succ_cons, Flo]
        refine ⟨_, _, os, rfl, .inr ⟨⟨c, b, hg, hcb⟩, rfl, rfl⟩, ?_⟩
        have : after s (.op dst g i) (.v undef) [] = s.put dst (.v undef) := by unfold after; rw [List.append_nil]; rfl
        rw [this]; exact h1
  | q + 1, .call dst g f args :: l, K, s, h, hc => by
    have hc' : ∀ (j : Nat) y, j < q → l[j]? = some y → y.cls ≤ 2 := fun j y hj hy => hc (j + 1) y (by omega) (by simpa using hy)
    have haf : ∀ d, after s (.call dst g f args) d [] = s.put dst d := fun d => by unfold after; rw [List.append_nil]; rfl
    simp only [DrT] at h
    split at h
    · rename_i k first caps hf
      split at h
      · exact h.elim
      · rename_i hg
        obtain ⟨d, hcall, hD⟩ := h
        obtain ⟨os, s1, h1, h2⟩ := drT_flo hD hc'
        refine ⟨(d, []) :: os, s1, ?_, by simpa using h2⟩
        simp only [List.take_succ_cons, Flo]
        exact ⟨d, [], os, rfl, ⟨k, first, caps, hf, rfl, .inl ⟨.inl hg, hcall⟩⟩, by rw [haf]; exact h1⟩
      · rename_i c b hg
        by_cases hcb : c = b
        · subst hcb
          obtain ⟨d, hcall, hD⟩ := h.1 rfl
          obtain ⟨os, s1, h1, h2⟩ := drT_flo hD hc'
          refine ⟨(d, []) :: os, s1, ?_, by simpa using h2⟩
          simp only [List.take_succ_cons, Flo]
          exact ⟨d, [], os, rfl, ⟨k, first, caps, hf, rfl, .inl ⟨.inr ⟨c, hg⟩, hcall⟩⟩, by rw [haf]; exact h1⟩
        · obtain ⟨os, s1, h1, h2⟩ := drT_flo (h.2 hcb) hc'
          refine ⟨(.v undef, []) :: os, s1, ?_, by simpa using h2⟩
          simp only [List.take_succ_cons, Flo]
          exact ⟨_, [], os, rfl, ⟨k, first, caps, hf, rfl, .inr ⟨⟨c, b, hg, hcb⟩, rfl⟩⟩, by rw [haf]; exact h1⟩
    · exact h.elim

theorem T.draw {q : Nat} {l : List RI} {K : Exit → St → Prop} {s : St} (hm : P.follows .mixedOrders = true) (h : DrT P q l (K .normal) s) : T P N (.draw q l) K s := by
  intro code hc G w a hN hr
  obtain ⟨id, ops, rfl, hc', hok⟩ := comp_draw hc
  obtain ⟨os, s1, h1, h2⟩ := drT_flo h (drawOk_facts hok).cls
  exact draw_sound hm hc' hok h1 h2 hr fun s' G' w' a' k1 k2 k3 => ⟨s', G', k1, k2, k3.toN hN⟩

theorem X.T : ∀ {c : C} {K : Exit → St → Prop} {s : St}, X P N c K s → T P N c K s
  | .skip, K, s, h => T.skip h
  | .reg l, K, s, h => T.reg h
  | .draw q l, K, s, h => T.draw h.1 h.2
  | .any cuts q bs l, K, s, h => T.any h.1 h.2.1 h.2.2
  | .seq a b, K, s, h => by
    simp only [X] at h
    refine T.seq ((X.T h).mono ?_)
    intro e s' h'
    cases e with
    | normal => exact X.T h'
    | _ => exact h'
  | .cond c a b, K, s, h => by
    simp only [X] at h
    split at h
    · rename_i t ht
      exact T.cond ht (fun e => X.T (h.1 e)) (fun e => X.T (h.2 e))
    · exact h.elim
  | .block id a, K, s, h => by
    simp only [X] at h
    exact T.block ((X.T h).mono fun e s' h' => by cases e <;> exact h')
  | .loop a, K, s, h => h
  | .exit id, K, s, h => T.exit h
  | .ret, K, s, h => T.ret h
end
end Go.Tm
