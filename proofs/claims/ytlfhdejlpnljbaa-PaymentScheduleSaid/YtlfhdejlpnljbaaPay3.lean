/-
  The postings of a payment, in plain lists: what a month receives.
-/
import Derived.Test.YtlfhdejlpnljbaaPay2
import Derived.Test.YtlfhdejlpnljbaaCash
set_option linter.unusedSimpArgs false
set_option linter.unusedVariables false
set_option maxHeartbeats 2000000
namespace Go.Proofs.Ytlfhdejlpnljbaa
open Go.Tm
set_option maxRecDepth 10000

/-- The postings of kind k for month m, added up. -/
def sumK (k m : Int) : List Ps → Int
  | [] => 0
  | p :: l => (if p.m = m ∧ p.k = k then p.c else 0) + sumK k m l
theorem sumK_append (k m : Int) (a b : List Ps) : sumK k m (a ++ b) = sumK k m a + sumK k m b := by
  induction a with
  | nil => simp [sumK]
  | cons p a ih => simp only [List.cons_append, sumK, ih]; omega
/-- The postings of kind k, added up. -/
def sumA (k : Int) : List Ps → Int
  | [] => 0
  | p :: l => (if p.k = k then p.c else 0) + sumA k l
theorem sumA_append (k : Int) (a b : List Ps) : sumA k (a ++ b) = sumA k a + sumA k b := by
  induction a with
  | nil => simp [sumA]
  | cons p a ih => simp only [List.cons_append, sumA, ih]; omega
theorem sumA_succ (k : Int) {l : List Ps} {i : Nat} (h : i < l.length) : sumA k (l.take (i + 1)) = sumA k (l.take i) + if l[i].k = k then l[i].c else 0 := by
  rw [List.take_succ_eq_append_getElem h, sumA_append]
  simp only [sumA]; omega
theorem sumK_succ (k m : Int) {l : List Ps} {i : Nat} (h : i < l.length) : sumK k m (l.take (i + 1)) = sumK k m (l.take i) + if l[i].m = m ∧ l[i].k = k then l[i].c else 0 := by
  rw [List.take_succ_eq_append_getElem h, sumK_append]
  simp only [sumK]; omega
theorem sumK_no {k m : Int} {l : List Ps} (h : ∀ p ∈ l, p.k ≠ k) : sumK k m l = 0 := by
  induction l with
  | nil => rfl
  | cons p l ih =>
    have h1 := h p (List.mem_cons_self ..)
    have h2 := ih fun q hq => h q (List.mem_cons_of_mem _ hq)
    simp only [sumK, h2]; rw [if_neg (fun hh => h1 hh.2)]; rfl
theorem sumA_no {k : Int} {l : List Ps} (h : ∀ p ∈ l, p.k ≠ k) : sumA k l = 0 := by
  induction l with
  | nil => rfl
  | cons p l ih =>
    have h1 := h p (List.mem_cons_self ..)
    have h2 := ih fun q hq => h q (List.mem_cons_of_mem _ hq)
    simp only [sumA, h2]; rw [if_neg h1]; rfl
theorem sumA_all {k : Int} {l : List Ps} (h : ∀ p ∈ l, p.k = k) : sumA k l = sumC l := by
  induction l with
  | nil => rfl
  | cons p l ih =>
    have h1 := h p (List.mem_cons_self ..)
    have h2 := ih fun q hq => h q (List.mem_cons_of_mem _ hq)
    simp only [sumA, sumC, h2]; rw [if_pos h1]

/-- All amounts are moderate. -/
def bndL (l : List Ps) : Prop := ∀ p ∈ l, 1 ≤ p.c ∧ p.c ≤ 4000000000000000
theorem sumA_bnd {k : Int} : ∀ {l : List Ps}, bndL l → 0 ≤ sumA k l ∧ sumA k l ≤ 4000000000000000 * (l.length : Int)
  | [], _ => by simp [sumA]
  | p :: l, h => by
    have h1 := h p (List.mem_cons_self ..)
    have h2 := sumA_bnd (k := k) (l := l) fun q hq => h q (List.mem_cons_of_mem _ hq)
    simp only [sumA, List.length_cons]
    split <;> omega
theorem sumK_bnd {k m : Int} : ∀ {l : List Ps}, bndL l → 0 ≤ sumK k m l ∧ sumK k m l ≤ 4000000000000000 * (l.length : Int)
  | [], _ => by simp [sumK]
  | p :: l, h => by
    have h1 := h p (List.mem_cons_self ..)
    have h2 := sumK_bnd (k := k) (m := m) (l := l) fun q hq => h q (List.mem_cons_of_mem _ hq)
    simp only [sumK, List.length_cons]
    split <;> omega
theorem bnd_take {l : List Ps} (h : bndL l) (i : Nat) : bndL (l.take i) := fun p hp => h p (List.mem_of_mem_take hp)

theorem cash_sum {l : List Ps} (h : bndL l) (hl : l.length ≤ 1000) : cashS l = sumA 1 l - sumA 2 l := by
  have key : ∀ i, i ≤ l.length → (l.take i).foldl cash1 0 = sumA 1 (l.take i) - sumA 2 (l.take i) := by
    intro i
    induction i with
    | zero => intro _; rfl
    | succ i ih =>
      intro hi
      have hlt : i < l.length := hi
      rw [foldl_take cash1 0 l hlt, ih (by omega), sumA_succ 1 hlt, sumA_succ 2 hlt]
      have b1 := sumA_bnd (k := 1) (bnd_take h i)
      have b2 := sumA_bnd (k := 2) (bnd_take h i)
      have b3 := h l[i] (List.getElem_mem hlt)
      have b4 : (l.take i).length ≤ 1000 := by rw [List.length_take]; omega
      unfold cash1
      split
      · rename_i h1
        have h2 : ¬ l[i].k = 2 := by omega
        rw [wrapI (by omega), if_neg h2]; omega
      · rename_i h1
        split
        · rename_i h2
          rw [wrapI (by omega)]; omega
        · rename_i h2
          omega
  have := key l.length (Nat.le_refl _)
  rwa [List.take_length] at this

/-- The balances of a law's list: no negative amounts, different months. -/
def cleanP (l : List Ba) : Prop := (∀ b ∈ l, 0 ≤ b.d ∧ 0 ≤ b.r ∧ 0 ≤ b.w) ∧ (l.map Ba.m).Nodup

/-- The payments, as a list. -/
def payL (to date : Int) : List Ba → List Ps
  | [] => []
  | b :: l => if to < b.m ∨ arW b ≤ 0 then payL to date l else ⟨date, b.m, 1, arW b⟩ :: payL to date l
theorem payL_append (to date : Int) (a b : List Ba) : payL to date (a ++ b) = payL to date a ++ payL to date b := by
  induction a with
  | nil => rfl
  | cons x a ih => simp only [List.cons_append, payL, ih]; split <;> rfl
theorem psti_payL (to date : Int) {l : List Ba} : ∀ i, i ≤ l.length → (psti to date l i).1 = payL to date (l.take i) ∧ (psti to date l i).2 = sumC (payL to date (l.take i))
  | 0, _ => ⟨rfl, rfl⟩
  | i + 1, h => by
    obtain ⟨h1, h2⟩ := psti_payL to date (l := l) i (by omega)
    have hlt : i < l.length := h
    rw [psti_succ hlt, List.take_succ_eq_append_getElem hlt, payL_append]
    unfold pstep
    simp only [payL]
    split
    · rw [List.append_nil]; exact ⟨h1, h2⟩
    · rw [sumC_append, ← h2, ← h1]
      exact ⟨rfl, by simp only [sumC]; omega⟩
theorem payL_each {to date : Int} : ∀ {l : List Ba}, ∀ p ∈ payL to date l, p.d = date ∧ p.k = 1 ∧ 1 ≤ p.c ∧ ∃ b ∈ l, p.m = b.m ∧ p.c = arW b
  | [], p, h => by simp [payL] at h
  | b :: l, p, h => by
    simp only [payL] at h
    split at h
    · obtain ⟨h1, h2, h3, x, hx, h4⟩ := payL_each p h
      exact ⟨h1, h2, h3, x, List.mem_cons_of_mem _ hx, h4⟩
    · rename_i hc
      rcases List.mem_cons.1 h with rfl | h
      · simp only [not_or] at hc
        exact ⟨rfl, rfl, by show 1 ≤ arW b; omega, b, List.mem_cons_self .., rfl, rfl⟩
      · obtain ⟨h1, h2, h3, x, hx, h4⟩ := payL_each p h
        exact ⟨h1, h2, h3, x, List.mem_cons_of_mem _ hx, h4⟩
theorem sumK_none {k m0 : Int} {ps : List Ps} (h : ∀ p ∈ ps, p.m ≠ m0) : sumK k m0 ps = 0 := by
  induction ps with
  | nil => rfl
  | cons p l ih =>
    have h1 := h p (List.mem_cons_self ..)
    have h2 := ih fun q hq => h q (List.mem_cons_of_mem _ hq)
    simp only [sumK, h2]; rw [if_neg (fun hh => h1 hh.1)]; rfl

theorem paid_of {to date : Int} : ∀ {l : List Ba}, (l.map Ba.m).Nodup → ∀ b ∈ l, sumK 1 b.m (payL to date l) = if to < b.m ∨ arW b ≤ 0 then 0 else arW b
  | [], _, b, h => by simp at h
  | a :: l, hn, b, h => by
    simp only [List.map_cons, List.nodup_cons] at hn
    rcases List.mem_cons.1 h with rfl | h
    · have h0 : sumK 1 b.m (payL to date l) = 0 := sumK_none fun p hp => by
        obtain ⟨_, _, _, x, hx, h4, _⟩ := payL_each p hp
        rw [h4]
        exact fun e => hn.1 (e ▸ List.mem_map_of_mem hx)
      simp only [payL]
      split
      · exact h0
      · simp only [sumK, h0]; simp
    · have hne : a.m ≠ b.m := fun e => hn.1 (e ▸ List.mem_map_of_mem h)
      have ih := paid_of (to := to) (date := date) hn.2 b h
      simp only [payL]
      split
      · exact ih
      · simp only [sumK]; rw [if_neg (fun hh => hne hh.1), ih]; omega

theorem Emb.month : ∀ {l : List Ba} {ps : List Ps}, Emb ps l → ∀ p ∈ ps, ∃ b ∈ l, b.m = p.m ∧ p.c ≤ ovW b
  | _, [], _, p, hp => by simp at hp
  | [], _ :: _, h, _, _ => h.elim
  | b :: l, q :: ps, h, p, hp => by
    rcases h with ⟨h1, h2⟩ | h
    · rcases List.mem_cons.1 hp with rfl | hp
      · exact ⟨b, List.mem_cons_self .., h1.1, h1.2⟩
      · obtain ⟨x, hx, h3⟩ := h2.month p hp
        exact ⟨x, List.mem_cons_of_mem _ hx, h3⟩
    · obtain ⟨x, hx, h3⟩ := h.month p hp
      exact ⟨x, List.mem_cons_of_mem _ hx, h3⟩

theorem taken_of : ∀ {l : List Ba} {ps : List Ps}, (l.map Ba.m).Nodup → Emb ps l → ∀ b ∈ l, 0 ≤ ovW b → sumK 2 b.m ps ≤ ovW b
  | [], _, _, _, b, h, _ => by simp at h
  | a :: l, [], _, _, b, _, h0 => by simpa [sumK] using h0
  | a :: l, p :: ps, hn, he, b, h, h0 => by
    simp only [List.map_cons, List.nodup_cons] at hn
    have none : ∀ qs : List Ps, Emb qs l → b = a → sumK 2 b.m qs = 0 := fun qs hq e => sumK_none fun q hqm => by
      obtain ⟨x, hx, h3, _⟩ := hq.month q hqm
      rw [← h3]
      exact fun e2 => hn.1 (by rw [← e, ← e2]; exact List.mem_map_of_mem hx)
    rcases he with ⟨h1, h2⟩ | he
    · simp only [sumK]
      rcases List.mem_cons.1 h with rfl | h
      · rw [none ps h2 rfl]
        have := h1.2
        split <;> omega
      · have hne : a.m ≠ b.m := fun e => hn.1 (e ▸ List.mem_map_of_mem h)
        rw [if_neg (fun hh => hne (by rw [h1.1]; exact hh.1))]
        have := taken_of hn.2 h2 b h h0
        omega
    · rcases List.mem_cons.1 h with rfl | h
      · rw [none _ he rfl]; exact h0
      · exact taken_of hn.2 he b h h0

/-- What the statement says of the postings of a payment. -/
structure PayF (to : Int) (c : Cf) (l : List Ba) (ps : List Ps) : Prop where
  bnd : bndL ps
  len : ps.length ≤ 120
  each : ∀ p ∈ ps, p.d = 9 ∧ (p.k = 1 ∨ p.k = 2)
  lim : sumA 2 ps ≤ limS (sumA 1 ps) c.cap c.floor
  s1 : 0 ≤ sumA 1 ps
  s2 : 0 ≤ sumA 2 ps
  net : sumA 2 ps ≤ sumA 1 ps
  got : ∀ b ∈ l, 0 ≤ b.r + sumK 1 b.m ps - sumK 2 b.m ps ∧ max (b.d - (b.r + sumK 1 b.m ps - sumK 2 b.m ps)) 0 ≤ max (b.d - b.r) 0 ∧
    (b.m ≤ to → max (b.d - (b.r + sumK 1 b.m ps - sumK 2 b.m ps)) 0 = 0)

theorem ovW_mod {b : Ba} (h : modB b) : ovW b = max (b.r - b.d - b.w) 0 := by
  unfold modB mod1 at h
  unfold ovW
  rw [wrapI (n := b.r - b.d) (by omega), wrapI (by omega)]

theorem pay_facts (to : Int) (c : Cf) (st : Int → Bool) (l : List Ba) (n : Nat) (hm : modP l n) (hcl : cleanP l) : PayF to c l (payS to 9 c st l) := by
  have hlen := payS_len (to := to) (date := 9) (c := c) (st := st) hm
  obtain ⟨e1, e2⟩ := psti_payL to 9 (l := l) l.length (Nat.le_refl _)
  rw [List.take_length] at e1 e2
  have hg := dist_good st 9 2 l (limS (sumC (payL to 9 l)) c.cap c.floor) (limS_nn _ _ _)
  have hp : payS to 9 c st l = payL to 9 l ++ (dist st 9 2 l (limS (sumC (payL to 9 l)) c.cap c.floor)).1 := by unfold payS; rw [e1, e2]
  rw [hp] at hlen ⊢
  obtain ⟨⟨rs, rem⟩, hr⟩ : ∃ p, dist st 9 2 l (limS (sumC (payL to 9 l)) c.cap c.floor) = p := ⟨_, rfl⟩
  rw [hr] at hg hlen ⊢
  have hsum := hg.sum
  have hrem := hg.rem
  have hemb := hg.emb
  simp only at hsum hrem hlen hemb ⊢
  have p1 : ∀ p ∈ payL to 9 l, p.k = 1 := fun p hp => (payL_each p hp).2.1
  have p2 : ∀ p ∈ payL to 9 l, p.k ≠ 2 := fun p hp => by rw [p1 p hp]; decide
  have r2 : ∀ p ∈ rs, p.k = 2 := fun p hp => (hg.each p hp).2.1
  have r1 : ∀ p ∈ rs, p.k ≠ 1 := fun p hp => by rw [r2 p hp]; decide
  have a1 : sumA 1 (payL to 9 l ++ rs) = sumC (payL to 9 l) := by rw [sumA_append, sumA_all p1, sumA_no r1]; omega
  have a2 : sumA 2 (payL to 9 l ++ rs) = sumC rs := by rw [sumA_append, sumA_all r2, sumA_no p2]; omega
  have hb : bndL (payL to 9 l ++ rs) := by
    intro p hp
    rcases List.mem_append.1 hp with hp | hp
    · obtain ⟨_, _, h3, b, hb, _, h4⟩ := payL_each p hp
      have := (arW_mod (hm.2.2 b hb)).2.2
      omega
    · obtain ⟨b, hb, _, h4⟩ := hemb.month p hp
      have h5 := ovW_mod (hm.2.2 b hb)
      have h6 := hm.2.2 b hb
      unfold modB mod1 at h6
      have := (hg.each p hp).1
      omega
  have n1 := sumC_nn (l := payL to 9 l) fun p hp => (hb p (List.mem_append_left _ hp)).1
  have n2 := sumC_nn (l := rs) fun p hp => (hb p (List.mem_append_right _ hp)).1
  have hle := limS_le (sumC (payL to 9 l)) c.cap c.floor
  refine ⟨hb, hlen, ?_, by rw [a1, a2]; omega, by omega, by omega, by omega, ?_⟩
  · intro p hp
    rcases List.mem_append.1 hp with hp | hp
    · exact ⟨(payL_each p hp).1, .inl (p1 p hp)⟩
    · exact ⟨(hg.each p hp).2.2.1, .inr (r2 p hp)⟩
  · intro b hbl
    have k1 : sumK 1 b.m (payL to 9 l ++ rs) = if to < b.m ∨ arW b ≤ 0 then 0 else arW b := by
      rw [sumK_append, sumK_no r1, paid_of hcl.2 b hbl]; omega
    have hmb := hm.2.2 b hbl
    have o1 := ovW_mod hmb
    have k2 : sumK 2 b.m (payL to 9 l ++ rs) ≤ ovW b := by
      rw [sumK_append, sumK_no p2]
      have := taken_of hcl.2 hemb b hbl (by omega)
      omega
    have k3 := (sumK_bnd (k := 2) (m := b.m) hb).1
    obtain ⟨q1, q2, q3⟩ := hcl.1 b hbl
    obtain ⟨o2, o3, o4⟩ := arW_mod hmb
    generalize sumK 2 b.m (payL to 9 l ++ rs) = y at *
    generalize sumK 1 b.m (payL to 9 l ++ rs) = x at *
    split at k1
    · rename_i hc
      refine ⟨by omega, by omega, fun ht => ?_⟩
      omega
    · rename_i hc
      refine ⟨by omega, by omega, fun ht => ?_⟩
      omega
end Go.Proofs.Ytlfhdejlpnljbaa
