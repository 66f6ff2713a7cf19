/-
  Encodings are decoded, and decoded records encode to what was there: no program in sight.
-/
import Derived.Test.YtjbhgmeokoconaaRefDec
set_option linter.unusedSimpArgs false
set_option linter.unusedVariables false
set_option maxHeartbeats 2000000
namespace Go.Proofs.Ytjbhgmeokoconaa
open Go.Tm
set_option maxRecDepth 10000

theorem bytesLE_leN : ∀ l : List (BitVec 8), bytesLE l.length (leN l) = l
  | [] => rfl
  | b :: l => by
    have hb := b.isLt
    simp only [List.length_cons, bytesLE, leN]
    rw [show (b.toNat + 256 * leN l) / 256 = leN l by omega, bytesLE_leN l]
    congr 1
    apply BitVec.eq_of_toNat_eq
    rw [BitVec.toNat_ofNat]
    omega

theorem leN_bytesLE : ∀ (k u : Nat), leN (bytesLE k u) = u % 256 ^ k
  | 0, u => by simp [bytesLE, leN, Nat.mod_one]
  | k + 1, u => by
    rw [bytesLE, leN, leN_bytesLE k, BitVec.toNat_ofNat, show 256 ^ (k + 1) = 256 * 256 ^ k by rw [Nat.pow_succ, Nat.mul_comm], Nat.mod_mul]

theorem sg64_inv {n : Int} (h : ok64 n) : sg64 (n % 2 ^ 64).toNat = n := by
  unfold sg64 ok64 at *
  rw [wrapF_eq, IntKind.wrap_i64]
  omega

theorem inv_sg64 {x : Nat} (h : x < 2 ^ 64) : (sg64 x % 2 ^ 64).toNat = x := by
  unfold sg64
  rw [wrapF_eq, IntKind.wrap_i64]
  omega

theorem wordsB_cons (n : Int) (W : List Int) : wordsB (n :: W) = bytesLE 8 (n % 2 ^ 64).toNat ++ wordsB W := rfl

theorem wd_head {n : Int} (h : ok64 n) (W : List Int) (X : List (BitVec 8)) : wd (wordsB (n :: W) ++ X) 0 = n := by
  unfold wd
  rw [Nat.mul_zero, List.drop_zero, wordsB_cons, List.append_assoc, List.take_append_of_le_length (by rw [bytesLE_len]; omega), List.take_of_length_le (by rw [bytesLE_len]; omega), leN_bytesLE]
  rw [Nat.mod_eq_of_lt (by omega), sg64_inv h]

theorem wd_app (A : List (BitVec 8)) (a : Nat) (hA : A.length = 8 * a) (X : List (BitVec 8)) (j : Nat) : wd (A ++ X) (a + j) = wd X j := by
  unfold wd
  rw [List.drop_append, hA, show 8 * (a + j) - 8 * a = 8 * j by omega, List.drop_of_length_le (by rw [hA]; omega), List.nil_append]

theorem wd_tail (n : Int) (W : List Int) (X : List (BitVec 8)) (j : Nat) : wd (wordsB (n :: W) ++ X) (j + 1) = wd (wordsB W ++ X) j := by
  rw [wordsB_cons, List.append_assoc, Nat.add_comm j 1, wd_app _ 1 (by rw [bytesLE_len])]

/-- Postings read from word j on. -/
def readPs (X : List (BitVec 8)) : Nat → Nat → List Ps
  | _, 0 => []
  | j, k + 1 => ⟨wd X j, wd X (j + 1), wd X (j + 2), wd X (j + 3)⟩ :: readPs X (j + 4) k

theorem psl_read (X : List (BitVec 8)) : ∀ (k j : Nat), readPs X j k = (List.range k).map fun i => ⟨wd X (j + 4 * i), wd X (j + 1 + 4 * i), wd X (j + 2 + 4 * i), wd X (j + 3 + 4 * i)⟩
  | 0, j => rfl
  | k + 1, j => by
    rw [readPs, psl_read X k, List.range_succ_eq_map, List.map_cons, List.map_map]
    simp only [Nat.mul_zero, Nat.add_zero]
    congr 1
    apply List.map_congr_left
    intro i _
    simp only [Function.comp, Nat.succ_eq_add_one, Nat.mul_add, Nat.mul_one]
    rw [show j + 4 + 4 * i = j + (4 * i + 4) by omega, show j + 4 + 1 + 4 * i = j + 1 + (4 * i + 4) by omega, show j + 4 + 2 + 4 * i = j + 2 + (4 * i + 4) by omega, show j + 4 + 3 + 4 * i = j + 3 + (4 * i + 4) by omega]

theorem readPs_app (A : List (BitVec 8)) (a : Nat) (hA : A.length = 8 * a) (X : List (BitVec 8)) : ∀ (k j : Nat), readPs (A ++ X) (a + j) k = readPs X j k
  | 0, j => rfl
  | k + 1, j => by
    simp only [readPs, Nat.add_assoc, wd_app A a hA]
    rw [readPs_app A a hA X k]

theorem readPs_enc : ∀ (l : List Ps) (X : List (BitVec 8)), (∀ p ∈ l, p.Ok) → readPs (wordsB (l.flatMap psW) ++ X) 0 l.length = l
  | [], X, _ => rfl
  | p :: l, X, h => by
    have hp := h p (by simp)
    have hw : wordsB ((p :: l).flatMap psW) ++ X = wordsB (psW p) ++ (wordsB (l.flatMap psW) ++ X) := by
      rw [List.flatMap_cons, wordsB_append, List.append_assoc]
    rw [List.length_cons, readPs, hw]
    have e := readPs_app (wordsB (psW p)) 4 (by rw [wordsB_len]; rfl) (wordsB (l.flatMap psW) ++ X) l.length 0
    rw [show 0 + 4 = 4 + 0 by rfl, e, readPs_enc l X fun q hq => h q (by simp [hq])]
    simp only [psW]
    rw [wd_head hp.d, wd_tail, wd_head hp.m, wd_tail, wd_tail, wd_head hp.k, wd_tail, wd_tail, wd_tail, wd_head hp.c]

theorem recOf_enc (r : Rc) (h : r.Ok) (X : List (BitVec 8)) : recOf (payload r ++ X) r.ps.length = r := by
  have hw : payload r ++ X = wordsB (rcW r) ++ (wordsB (r.ps.flatMap psW) ++ X) := by rw [payload, List.append_assoc]
  have hp : psl (payload r ++ X) r.ps.length = r.ps := by
    have e := readPs_app (wordsB (rcW r)) 9 (by rw [wordsB_len]; rfl) (wordsB (r.ps.flatMap psW) ++ X) r.ps.length 0
    rw [readPs_enc _ _ h.ps, ← hw, psl_read] at e
    exact e
  unfold recOf
  rw [hp, hw]
  obtain ⟨a, b, c, d, e, f, g, i, ps⟩ := r
  obtain ⟨h1, h2, h3, h4, h5, h6, h7, h8, _, _⟩ := h
  simp only [rcW]
  simp only [wd_tail, wd_head h1, wd_head h2, wd_head h3, wd_head h4, wd_head h5, wd_head h6, wd_head h7, wd_head h8]

theorem cnt_enc (r : Rc) (hk : r.ps.length ≤ 4096) (X : List (BitVec 8)) : wd (payload r ++ X) 8 = (r.ps.length : Int) := by
  have hw : payload r ++ X = wordsB (rcW r) ++ (wordsB (r.ps.flatMap psW) ++ X) := by rw [payload, List.append_assoc]
  rw [hw]
  simp only [rcW, wd_tail]
  exact wd_head (by unfold ok64; omega) _ _

/-- **An encoding is a complete record.** -/
theorem good_enc (r : Rc) (h : r.Ok) (hk : r.ps.length ≤ 4096) (X : List (BitVec 8)) : Good1 (encB r ++ X) r.ps.length ∧ recOf ((encB r ++ X).drop 4) r.ps.length = r := by
  have hd4 : (encB r ++ X).drop 4 = payload r ++ (bytesLE 4 (crcRef (payload r)).toNat ++ X) := by
    unfold encB
    rw [List.append_assoc, List.append_assoc, List.drop_append_of_le_length (by rw [bytesLE_len]; omega), List.drop_of_length_le (by rw [bytesLE_len]; omega), List.nil_append]
  have hc := (crcRef (payload r)).isLt
  refine ⟨⟨by rw [List.length_append, encB_len]; omega, ?_, hk, by rw [List.length_append, encB_len]; omega, ?_, ?_⟩, ?_⟩
  · unfold encB
    rw [List.append_assoc, List.append_assoc, List.take_append_of_le_length (by rw [bytesLE_len]; omega), List.take_of_length_le (by rw [bytesLE_len]; omega), leN_bytesLE, Nat.mod_eq_of_lt (by omega)]
  · rw [hd4, List.take_append_of_le_length (by rw [payload_len]; omega), List.take_of_length_le (by rw [payload_len]; omega)]
    rw [show 76 + 32 * r.ps.length = 4 + (72 + 32 * r.ps.length) by omega, ← List.drop_drop, hd4, ← payload_len r, List.drop_left, List.take_append_of_le_length (by rw [bytesLE_len]; omega), List.take_of_length_le (by rw [bytesLE_len]; omega), leN_bytesLE, Nat.mod_eq_of_lt (by omega)]
  · rw [hd4]; exact cnt_enc r hk _
  · rw [hd4]; exact recOf_enc r h _

theorem bytesLE_wd (L : List (BitVec 8)) (j : Nat) (h : 8 * (j + 1) ≤ L.length) : bytesLE 8 (wd L j % 2 ^ 64).toNat = (L.drop (8 * j)).take 8 := by
  have hl : ((L.drop (8 * j)).take 8).length = 8 := by rw [List.length_take, List.length_drop]; omega
  have hx := leN_lt ((L.drop (8 * j)).take 8)
  rw [hl] at hx
  unfold wd
  rw [inv_sg64 (by omega)]
  have := bytesLE_leN ((L.drop (8 * j)).take 8)
  rwa [hl] at this

theorem wordsB_wds (L : List (BitVec 8)) : ∀ n, 8 * n ≤ L.length → wordsB (wds L n) = L.take (8 * n)
  | 0, _ => by simp [wds, wordsB_nil]
  | n + 1, h => by
    rw [wds, List.range_succ, List.map_append, wordsB_append, ← wds, wordsB_wds L n (by omega), List.map_cons, List.map_nil, wordsB_cons, wordsB_nil, List.append_nil, bytesLE_wd L n h, ← List.take_add]
    rfl

theorem psl_words (L : List (BitVec 8)) : ∀ k, wds L 9 ++ (psl L k).flatMap psW = wds L (9 + 4 * k)
  | 0 => by simp [psl]
  | k + 1 => by
    rw [psl_succ, List.flatMap_append, ← List.append_assoc, psl_words L k]
    simp only [List.flatMap_cons, List.flatMap_nil, psW, List.append_nil, wds]
    rw [show 9 + 4 * (k + 1) = 9 + 4 * k + 1 + 1 + 1 + 1 by omega]
    simp only [List.range_succ, List.map_append, List.map_cons, List.map_nil, List.append_assoc, List.cons_append, List.nil_append]
    rw [show 10 + 4 * k = 9 + 4 * k + 1 by omega, show 11 + 4 * k = 9 + 4 * k + 1 + 1 by omega, show 12 + 4 * k = 9 + 4 * k + 1 + 1 + 1 by omega]

/-- **A complete record, encoded, is what was there.** -/
theorem enc_good {bs : List (BitVec 8)} {k : Nat} (h : Good1 bs k) : encB (recOf (bs.drop 4) k) = bs.take (80 + 32 * k) := by
  have hl := h.len
  have hL : (bs.drop 4).length = bs.length - 4 := List.length_drop
  have hp : payload (recOf (bs.drop 4) k) = (bs.drop 4).take (72 + 32 * k) := by
    have hw : rcW (recOf (bs.drop 4) k) = wds (bs.drop 4) 9 := by
      simp only [rcW, recOf_len, ← h.cnt]
      rfl
    rw [payload, hw, ← wordsB_append]
    rw [show (recOf (bs.drop 4) k).ps = psl (bs.drop 4) k from rfl, psl_words, wordsB_wds _ _ (by omega), show 8 * (9 + 4 * k) = 72 + 32 * k by omega]
  have h4 : bytesLE 4 (72 + 32 * k) = bs.take 4 := by
    have := bytesLE_leN (bs.take 4)
    rwa [h.n, List.length_take, Nat.min_eq_left h.len4] at this
  have hc : bytesLE 4 (crcRef ((bs.drop 4).take (72 + 32 * k))).toNat = (bs.drop (76 + 32 * k)).take 4 := by
    have := bytesLE_leN ((bs.drop (76 + 32 * k)).take 4)
    rwa [← h.crc, List.length_take, List.length_drop, Nat.min_eq_left (by omega)] at this
  rw [encB, recOf_len, hp, h4, hc]
  generalize hm : 72 + 32 * k = m
  rw [show 80 + 32 * k = 4 + m + 4 by omega, List.take_add, List.take_add, show 76 + 32 * k = 4 + m by omega]

/-- The encodings of records, one after the other. -/
def allB (l : List Rc) : List (BitVec 8) := l.flatMap encB

theorem Dcd.all : ∀ {bs : List (BitVec 8)} {l : List Rc} {n : Nat}, Dcd bs l n → allB l = bs.take n
  | bs, [], n, h => by simp [allB, h.1]
  | bs, r :: l, n, h => by
    obtain ⟨k, hk, rfl, h1, h2⟩ := h
    have h3 := Dcd.all h2
    rw [allB, List.flatMap_cons, ← allB, h3, enc_good hk]
    generalize 80 + 32 * k = m at *
    rw [← List.take_add, Nat.add_sub_cancel' h1]

theorem not_good_nil (k : Nat) : ¬ Good1 [] k := fun h => by have := h.len4; simp at this

theorem Dcd_all : ∀ {l : List Rc}, (∀ r ∈ l, r.Ok ∧ r.ps.length ≤ 4096) → Dcd (allB l) l (allB l).length
  | [], _ => ⟨rfl, not_good_nil⟩
  | r :: l, h => by
    obtain ⟨h1, h2⟩ := h r (by simp)
    obtain ⟨g1, g2⟩ := good_enc r h1 h2 (allB l)
    have hd : (allB (r :: l)).drop (80 + 32 * r.ps.length) = allB l := by
      rw [allB, List.flatMap_cons, ← allB, ← encB_len r, List.drop_left]
    refine ⟨r.ps.length, g1, g2.symm, ?_, ?_⟩
    · rw [allB, List.flatMap_cons, List.length_append, encB_len]; omega
    · have hlen : (allB (r :: l)).length = 80 + 32 * r.ps.length + (allB l).length := by
        rw [show allB (r :: l) = encB r ++ allB l from rfl, List.length_append, encB_len]
      rw [hd, hlen, Nat.add_sub_cancel_left]
      exact Dcd_all fun q hq => h q (by simp [hq])

/-- How many records lie whole within n bytes, and their length. -/
def torn : List Rc → Nat → Nat × Nat
  | [], _ => (0, 0)
  | r :: l, n => if 80 + 32 * r.ps.length ≤ n then ((torn l (n - (80 + 32 * r.ps.length))).1 + 1, (torn l (n - (80 + 32 * r.ps.length))).2 + (80 + 32 * r.ps.length)) else (0, 0)

/-- **Of a torn journal the whole records are decoded.** -/
theorem Dcd_torn : ∀ {l : List Rc} {n : Nat}, (∀ r ∈ l, r.Ok ∧ r.ps.length ≤ 4096) → Dcd ((allB l).take n) (l.take (torn l n).1) (torn l n).2
  | [], n, _ => by
    simp only [allB, List.flatMap_nil, List.take_nil, torn]
    exact ⟨rfl, not_good_nil⟩
  | r :: l, n, h => by
    obtain ⟨h1, h2⟩ := h r (by simp)
    have hl : allB (r :: l) = encB r ++ allB l := by rw [allB, List.flatMap_cons, ← allB]
    rw [hl, torn]
    by_cases hn : 80 + 32 * r.ps.length ≤ n
    · rw [if_pos hn]
      have htk : (encB r ++ allB l).take n = encB r ++ (allB l).take (n - (80 + 32 * r.ps.length)) := by
        rw [List.take_append, encB_len, List.take_of_length_le (by rw [encB_len]; omega)]
      obtain ⟨g1, g2⟩ := good_enc r h1 h2 ((allB l).take (n - (80 + 32 * r.ps.length)))
      simp only [List.take_succ_cons]
      rw [htk]
      refine ⟨r.ps.length, g1, g2.symm, by omega, ?_⟩
      rw [← encB_len r, List.drop_left, encB_len, Nat.add_sub_cancel]
      exact Dcd_torn fun q hq => h q (by simp [hq])
    · rw [if_neg hn]
      simp only [List.take_zero]
      refine ⟨rfl, fun k hk => ?_⟩
      have htk : (encB r ++ allB l).take n = (encB r).take n := by
        rw [List.take_append_of_le_length (by rw [encB_len]; omega)]
      rw [htk] at hk
      have h4 := hk.len4
      have hlen := hk.len
      rw [List.length_take, encB_len] at h4 hlen
      have hn4 := hk.n
      rw [List.take_take, Nat.min_eq_left (by omega)] at hn4
      have g1 := (good_enc r h1 h2 []).1.n
      rw [List.append_nil] at g1
      omega
end Go.Proofs.Ytjbhgmeokoconaa
