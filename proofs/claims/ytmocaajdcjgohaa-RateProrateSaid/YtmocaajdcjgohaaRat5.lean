/-
  rate.Prorate and Compound, and the reference's; the statements about them, and RateNegation.
-/
import Derived.Test.YtmocaajdcjgohaaRat4
set_option linter.unusedSimpArgs false
set_option linter.unusedVariables false
set_option maxHeartbeats 2000000
namespace Go.Proofs.Ytmocaajdcjgohaa
open Go.Tm
set_option maxRecDepth 10000

/-- Is the argument out of range. -/
def outP (c days total : Int) : Prop := 109573 < total ∨ days < 0 ∨ total < days ∨ bey c 1000000000000000
instance (c days total : Int) : Decidable (outP c days total) := by unfold outP; infer_instance

/-- The part of an amount, and the error's number. -/
def prS (c days total mode : Int) : Int × Int :=
  if okMode mode then
    if total < 1 then (0, 12) else if outP c days total then (0, 3) else mdS c days total mode
  else (0, 1)

theorem pro12 (c days total mode : Int) (hc : ok64 c) (hd : ok64 days) (ht : ok64 total) (m : List Ent) :
    CallT Try.prog 12 [i64 c, i64 days, i64 total, i64 mode] m fun d m' => d = mdD (prS c days total mode) ∧ m' = m := by
  have k1 : ok64 (-1000000000000000) := by unfold ok64; omega
  unfold prS
  by_cases hm : okMode mode
  · rw [if_pos hm]
    by_cases h0 : total < 1
    · rw [if_pos h0]
      simp only [i64, mdD]
      refine callT_of k12_ok k12_name (Z.T hmix ?_)
      simp only [k12, k12c, zz, leaves, undef, pin, Int.reduceLT, C.lps, C.isLoop, bsliceD, contents, gate, evalI, St.ev, St.put, List.replicate, Nat.reduceSub, Nat.reduceAdd, binJ, lenOfD, ressD, resD, D.ok, D.cells, one, reduceCtorEq, Nat.reduceEqDiff, Int.reduceEq]
      refine callX_eq (m20 _ _) ?_
      simp only [zz, leaves, undef, pin, Int.reduceLT, C.lps, C.isLoop, bsliceD, contents, gate, evalI, St.ev, St.put, List.replicate, Nat.reduceSub, Nat.reduceAdd, binJ, lenOfD, ressD, resD, D.ok, D.cells, one, reduceCtorEq, Nat.reduceEqDiff, Int.reduceEq, hm, h0]
    · rw [if_neg h0]
      by_cases e1 : 109573 < total
      · rw [if_pos (.inl e1)]
        simp only [i64, mdD]
        refine callT_of k12_ok k12_name (Z.T hmix ?_)
        simp only [k12, k12c, zz, leaves, undef, pin, Int.reduceLT, C.lps, C.isLoop, bsliceD, contents, gate, evalI, St.ev, St.put, List.replicate, Nat.reduceSub, Nat.reduceAdd, binJ, lenOfD, ressD, resD, D.ok, D.cells, one, reduceCtorEq, Nat.reduceEqDiff, Int.reduceEq]
        refine callX_eq (m20 _ _) ?_
        simp only [zz, leaves, undef, pin, Int.reduceLT, C.lps, C.isLoop, bsliceD, contents, gate, evalI, St.ev, St.put, List.replicate, Nat.reduceSub, Nat.reduceAdd, binJ, lenOfD, ressD, resD, D.ok, D.cells, one, reduceCtorEq, Nat.reduceEqDiff, Int.reduceEq, hm, h0, e1]
      · by_cases e2 : days < 0
        · rw [if_pos (.inr (.inl e2))]
          simp only [i64, mdD]
          refine callT_of k12_ok k12_name (Z.T hmix ?_)
          simp only [k12, k12c, zz, leaves, undef, pin, Int.reduceLT, C.lps, C.isLoop, bsliceD, contents, gate, evalI, St.ev, St.put, List.replicate, Nat.reduceSub, Nat.reduceAdd, binJ, lenOfD, ressD, resD, D.ok, D.cells, one, reduceCtorEq, Nat.reduceEqDiff, Int.reduceEq]
          refine callX_eq (m20 _ _) ?_
          simp only [zz, leaves, undef, pin, Int.reduceLT, C.lps, C.isLoop, bsliceD, contents, gate, evalI, St.ev, St.put, List.replicate, Nat.reduceSub, Nat.reduceAdd, binJ, lenOfD, ressD, resD, D.ok, D.cells, one, reduceCtorEq, Nat.reduceEqDiff, Int.reduceEq, hm, h0, e1, e2]
        · by_cases e3 : total < days
          · rw [if_pos (.inr (.inr (.inl e3)))]
            simp only [i64, mdD]
            refine callT_of k12_ok k12_name (Z.T hmix ?_)
            simp only [k12, k12c, zz, leaves, undef, pin, Int.reduceLT, C.lps, C.isLoop, bsliceD, contents, gate, evalI, St.ev, St.put, List.replicate, Nat.reduceSub, Nat.reduceAdd, binJ, lenOfD, ressD, resD, D.ok, D.cells, one, reduceCtorEq, Nat.reduceEqDiff, Int.reduceEq]
            refine callX_eq (m20 _ _) ?_
            simp only [zz, leaves, undef, pin, Int.reduceLT, C.lps, C.isLoop, bsliceD, contents, gate, evalI, St.ev, St.put, List.replicate, Nat.reduceSub, Nat.reduceAdd, binJ, lenOfD, ressD, resD, D.ok, D.cells, one, reduceCtorEq, Nat.reduceEqDiff, Int.reduceEq, hm, h0, e1, e2, e3]
          · by_cases e4 : bey c 1000000000000000
            · rw [if_pos (.inr (.inr (.inr e4)))]
              simp only [i64, mdD]
              refine callT_of k12_ok k12_name (Z.T hmix ?_)
              simp only [k12, k12c, zz, leaves, undef, pin, Int.reduceLT, C.lps, C.isLoop, bsliceD, contents, gate, evalI, St.ev, St.put, List.replicate, Nat.reduceSub, Nat.reduceAdd, binJ, lenOfD, ressD, resD, D.ok, D.cells, one, reduceCtorEq, Nat.reduceEqDiff, Int.reduceEq]
              refine callX_eq (m20 _ _) ?_
              simp only [zz, leaves, undef, pin, Int.reduceLT, C.lps, C.isLoop, bsliceD, contents, gate, evalI, St.ev, St.put, List.replicate, Nat.reduceSub, Nat.reduceAdd, binJ, lenOfD, ressD, resD, D.ok, D.cells, one, reduceCtorEq, Nat.reduceEqDiff, Int.reduceEq, hm, h0, e1, e2, e3]
              refine callX_eq (b21 _ _ k1 _) ?_
              simp only [zz, leaves, undef, pin, Int.reduceLT, C.lps, C.isLoop, bsliceD, contents, gate, evalI, St.ev, St.put, List.replicate, Nat.reduceSub, Nat.reduceAdd, binJ, lenOfD, ressD, resD, D.ok, D.cells, one, reduceCtorEq, Nat.reduceEqDiff, Int.reduceEq, e4]
            · rw [if_neg (by unfold outP; rintro (h | h | h | h) <;> contradiction)]
              simp only [i64]
              refine callT_of k12_ok k12_name (Z.T hmix ?_)
              simp only [k12, k12c, zz, leaves, undef, pin, Int.reduceLT, C.lps, C.isLoop, bsliceD, contents, gate, evalI, St.ev, St.put, List.replicate, Nat.reduceSub, Nat.reduceAdd, binJ, lenOfD, ressD, resD, D.ok, D.cells, one, reduceCtorEq, Nat.reduceEqDiff, Int.reduceEq]
              refine callX_eq (m20 _ _) ?_
              simp only [zz, leaves, undef, pin, Int.reduceLT, C.lps, C.isLoop, bsliceD, contents, gate, evalI, St.ev, St.put, List.replicate, Nat.reduceSub, Nat.reduceAdd, binJ, lenOfD, ressD, resD, D.ok, D.cells, one, reduceCtorEq, Nat.reduceEqDiff, Int.reduceEq, hm, h0, e1, e2, e3]
              refine callX_eq (b21 _ _ k1 _) ?_
              simp only [zz, leaves, undef, pin, Int.reduceLT, C.lps, C.isLoop, bsliceD, contents, gate, evalI, St.ev, St.put, List.replicate, Nat.reduceSub, Nat.reduceAdd, binJ, lenOfD, ressD, resD, D.ok, D.cells, one, reduceCtorEq, Nat.reduceEqDiff, Int.reduceEq, e4]
              refine callX_eq (md40 c days total mode hc hd ht _) ?_
              simp only [zz, leaves, undef, pin, Int.reduceLT, C.lps, C.isLoop, bsliceD, contents, gate, evalI, St.ev, St.put, List.replicate, Nat.reduceSub, Nat.reduceAdd, binJ, lenOfD, ressD, resD, D.ok, D.cells, one, reduceCtorEq, Nat.reduceEqDiff, Int.reduceEq, mdD, i64]
  · rw [if_neg hm]
    simp only [i64, mdD]
    refine callT_of k12_ok k12_name (Z.T hmix ?_)
    simp only [k12, k12c, zz, leaves, undef, pin, Int.reduceLT, C.lps, C.isLoop, bsliceD, contents, gate, evalI, St.ev, St.put, List.replicate, Nat.reduceSub, Nat.reduceAdd, binJ, lenOfD, ressD, resD, D.ok, D.cells, one, reduceCtorEq, Nat.reduceEqDiff, Int.reduceEq]
    refine callX_eq (m20 _ _) ?_
    simp only [zz, leaves, undef, pin, Int.reduceLT, C.lps, C.isLoop, bsliceD, contents, gate, evalI, St.ev, St.put, List.replicate, Nat.reduceSub, Nat.reduceAdd, binJ, lenOfD, ressD, resD, D.ok, D.cells, one, reduceCtorEq, Nat.reduceEqDiff, Int.reduceEq, hm]

theorem pro13 (c days total mode : Int) (hc : ok64 c) (hd : ok64 days) (ht : ok64 total) (m : List Ent) :
    CallT Try.prog 13 [i64 c, i64 days, i64 total, i64 mode] m fun d m' => d = mdD (prS c days total mode) ∧ m' = m := by
  have k1 : ok64 (-1000000000000000) := by unfold ok64; omega
  unfold prS
  by_cases hm : okMode mode
  · have m1 : ¬ mode < 0 := by unfold okMode at hm; omega
    have m2 : ¬ 5 < mode := by unfold okMode at hm; omega
    rw [if_pos hm]
    by_cases h0 : total < 1
    · rw [if_pos h0]
      simp only [i64, mdD]
      refine callT_of k13_ok k13_name (Z.T hmix ?_)
      simp only [k13, k13c, m1, m2, h0, zz, leaves, undef, pin, Int.reduceLT, C.lps, C.isLoop, bsliceD, contents, gate, evalI, St.ev, St.put, List.replicate, Nat.reduceSub, Nat.reduceAdd, binJ, lenOfD, ressD, resD, D.ok, D.cells, one, reduceCtorEq, Nat.reduceEqDiff, Int.reduceEq]
    · rw [if_neg h0]
      by_cases e1 : 109573 < total
      · rw [if_pos (.inl e1)]
        simp only [i64, mdD]
        refine callT_of k13_ok k13_name (Z.T hmix ?_)
        simp only [k13, k13c, m1, m2, h0, e1, zz, leaves, undef, pin, Int.reduceLT, C.lps, C.isLoop, bsliceD, contents, gate, evalI, St.ev, St.put, List.replicate, Nat.reduceSub, Nat.reduceAdd, binJ, lenOfD, ressD, resD, D.ok, D.cells, one, reduceCtorEq, Nat.reduceEqDiff, Int.reduceEq]
      · by_cases e2 : days < 0
        · rw [if_pos (.inr (.inl e2))]
          simp only [i64, mdD]
          refine callT_of k13_ok k13_name (Z.T hmix ?_)
          simp only [k13, k13c, m1, m2, h0, e1, e2, zz, leaves, undef, pin, Int.reduceLT, C.lps, C.isLoop, bsliceD, contents, gate, evalI, St.ev, St.put, List.replicate, Nat.reduceSub, Nat.reduceAdd, binJ, lenOfD, ressD, resD, D.ok, D.cells, one, reduceCtorEq, Nat.reduceEqDiff, Int.reduceEq]
        · by_cases e3 : total < days
          · rw [if_pos (.inr (.inr (.inl e3)))]
            simp only [i64, mdD]
            refine callT_of k13_ok k13_name (Z.T hmix ?_)
            simp only [k13, k13c, m1, m2, h0, e1, e2, e3, zz, leaves, undef, pin, Int.reduceLT, C.lps, C.isLoop, bsliceD, contents, gate, evalI, St.ev, St.put, List.replicate, Nat.reduceSub, Nat.reduceAdd, binJ, lenOfD, ressD, resD, D.ok, D.cells, one, reduceCtorEq, Nat.reduceEqDiff, Int.reduceEq]
          · by_cases e4 : bey c 1000000000000000
            · rw [if_pos (.inr (.inr (.inr e4)))]
              simp only [i64, mdD]
              refine callT_of k13_ok k13_name (Z.T hmix ?_)
              simp only [k13, k13c, m1, m2, h0, e1, e2, e3, zz, leaves, undef, pin, Int.reduceLT, C.lps, C.isLoop, bsliceD, contents, gate, evalI, St.ev, St.put, List.replicate, Nat.reduceSub, Nat.reduceAdd, binJ, lenOfD, ressD, resD, D.ok, D.cells, one, reduceCtorEq, Nat.reduceEqDiff, Int.reduceEq]
              refine callX_eq (b25 _ _ k1 _) ?_
              simp only [zz, leaves, undef, pin, Int.reduceLT, C.lps, C.isLoop, bsliceD, contents, gate, evalI, St.ev, St.put, List.replicate, Nat.reduceSub, Nat.reduceAdd, binJ, lenOfD, ressD, resD, D.ok, D.cells, one, reduceCtorEq, Nat.reduceEqDiff, Int.reduceEq, e4]
            · rw [if_neg (by unfold outP; rintro (h | h | h | h) <;> contradiction)]
              simp only [i64]
              refine callT_of k13_ok k13_name (Z.T hmix ?_)
              simp only [k13, k13c, m1, m2, h0, e1, e2, e3, zz, leaves, undef, pin, Int.reduceLT, C.lps, C.isLoop, bsliceD, contents, gate, evalI, St.ev, St.put, List.replicate, Nat.reduceSub, Nat.reduceAdd, binJ, lenOfD, ressD, resD, D.ok, D.cells, one, reduceCtorEq, Nat.reduceEqDiff, Int.reduceEq]
              refine callX_eq (b25 _ _ k1 _) ?_
              simp only [zz, leaves, undef, pin, Int.reduceLT, C.lps, C.isLoop, bsliceD, contents, gate, evalI, St.ev, St.put, List.replicate, Nat.reduceSub, Nat.reduceAdd, binJ, lenOfD, ressD, resD, D.ok, D.cells, one, reduceCtorEq, Nat.reduceEqDiff, Int.reduceEq, e4]
              refine callX_eq (md41 c days total mode hc hd ht _) ?_
              simp only [zz, leaves, undef, pin, Int.reduceLT, C.lps, C.isLoop, bsliceD, contents, gate, evalI, St.ev, St.put, List.replicate, Nat.reduceSub, Nat.reduceAdd, binJ, lenOfD, ressD, resD, D.ok, D.cells, one, reduceCtorEq, Nat.reduceEqDiff, Int.reduceEq, mdD, i64]
  · rw [if_neg hm]
    simp only [i64, mdD]
    by_cases m1 : mode < 0
    · refine callT_of k13_ok k13_name (Z.T hmix ?_)
      simp only [k13, k13c, m1, zz, leaves, undef, pin, Int.reduceLT, C.lps, C.isLoop, bsliceD, contents, gate, evalI, St.ev, St.put, List.replicate, Nat.reduceSub, Nat.reduceAdd, binJ, lenOfD, ressD, resD, D.ok, D.cells, one, reduceCtorEq, Nat.reduceEqDiff, Int.reduceEq]
    · have m2 : 5 < mode := by unfold okMode at hm; omega
      refine callT_of k13_ok k13_name (Z.T hmix ?_)
      simp only [k13, k13c, m1, m2, zz, leaves, undef, pin, Int.reduceLT, C.lps, C.isLoop, bsliceD, contents, gate, evalI, St.ev, St.put, List.replicate, Nat.reduceSub, Nat.reduceAdd, binJ, lenOfD, ressD, resD, D.ok, D.cells, one, reduceCtorEq, Nat.reduceEqDiff, Int.reduceEq]

theorem lawProrate (c days total mode : Int) (hc : ok64 c) (hd : ok64 days) (ht : ok64 total) : CallT Try.prog 4 [i64 c, i64 days, i64 total, i64 mode] [] fun d _ => d = .v (.bool true) := by
  simp only [i64]
  refine callT_of k4_ok k4_name (Z.T hmix ?_)
  simp only [k4, k4c, zz, leaves, undef, pin, Int.reduceLT, C.lps, C.isLoop, bsliceD, contents, gate, evalI, St.ev, St.put, List.replicate, Nat.reduceSub, Nat.reduceAdd, binJ, lenOfD, ressD, resD, D.ok, D.cells, one, reduceCtorEq, Nat.reduceEqDiff, Int.reduceEq]
  refine callX_eq (pro12 c days total mode hc hd ht _) ?_
  simp only [zz, leaves, undef, pin, Int.reduceLT, C.lps, C.isLoop, bsliceD, contents, gate, evalI, St.ev, St.put, List.replicate, Nat.reduceSub, Nat.reduceAdd, binJ, lenOfD, ressD, resD, D.ok, D.cells, one, reduceCtorEq, Nat.reduceEqDiff, Int.reduceEq, mdD, i64]
  refine callX_eq (pro13 c days total mode hc hd ht _) ?_
  simp only [zz, leaves, undef, pin, Int.reduceLT, C.lps, C.isLoop, bsliceD, contents, gate, evalI, St.ev, St.put, List.replicate, Nat.reduceSub, Nat.reduceAdd, binJ, lenOfD, ressD, resD, D.ok, D.cells, one, reduceCtorEq, Nat.reduceEqDiff, Int.reduceEq, mdD, i64]
  refine callX_eq (awake03 _) ?_
  simp only [zz, leaves, undef, pin, Int.reduceLT, C.lps, C.isLoop, bsliceD, contents, gate, evalI, St.ev, St.put, List.replicate, Nat.reduceSub, Nat.reduceAdd, binJ, lenOfD, ressD, resD, D.ok, D.cells, one, reduceCtorEq, Nat.reduceEqDiff, Int.reduceEq]

/-- The part of a sum, rounded down. -/
theorem pr_floor {c a t : Int} (hc : 0 ≤ c ∧ c ≤ 1000000000000000) (ht : 1 ≤ t ∧ t ≤ 109573) (ha : 0 ≤ a ∧ a ≤ t) : prS c a t 0 = (((c.natAbs * a.natAbs / t.natAbs : Nat) : Int), 0) := by
  have hq : c.natAbs * a.natAbs / t.natAbs ≤ c.natAbs := by
    have h1 := Nat.mul_le_mul_left c.natAbs (show a.natAbs ≤ t.natAbs by omega)
    have h2 := Nat.div_le_div_right (c := t.natAbs) h1
    rwa [Nat.mul_div_cancel _ (by omega)] at h2
  have hng : neg3 c a t = false := by
    unfold neg3
    have h1 : decide (c < 0) = false := by simp; omega
    have h2 : decide (a < 0) = false := by simp; omega
    have h3 : decide (t < 0) = false := by simp; omega
    rw [h1, h2, h3]; rfl
  have hu : ∀ q r d, rndN false 0 q r d = q := fun q r d => up_no (by simp [upN])
  unfold prS mdS
  rw [if_pos (by unfold okMode; omega), if_neg (by omega), if_neg (by unfold outP bey; omega), if_pos (by unfold okMode; omega), if_neg (by omega), if_neg (by unfold bey; omega), hng, hu, if_pos (by omega)]
  simp [sgn]

theorem floor_sum (c a b t : Nat) (ht : 0 < t) (hab : a + b ≤ t) : c * a / t + c * b / t ≤ c * (a + b) / t ∧ c * (a + b) / t ≤ c * a / t + c * b / t + 1 ∧ c * (a + b) / t ≤ c := by
  have h1 := Nat.div_add_mod (c * a) t
  have h2 := Nat.div_add_mod (c * b) t
  have h3 := Nat.mod_lt (c * a) ht
  have h4 := Nat.mod_lt (c * b) ht
  have e : c * (a + b) = t * (c * a / t + c * b / t) + (c * a % t + c * b % t) := by rw [Nat.mul_add, Nat.mul_add]; omega
  have h5 := Nat.mul_le_mul_left c hab
  refine ⟨?_, ?_, ?_⟩
  · rw [e, Nat.mul_add_div ht]; exact Nat.le_add_right _ _
  · rw [e, Nat.mul_add_div ht]
    have : (c * a % t + c * b % t) / t ≤ 1 := by
      have : (c * a % t + c * b % t) / t < 2 := (Nat.div_lt_iff_lt_mul ht).2 (by omega)
      omega
    omega
  · have h6 := Nat.div_le_div_right (c := t) h5
    rwa [Nat.mul_div_cancel _ ht] at h6

theorem lawBound (c a b t : Int) (h0 : ok64 c) (h1 : ok64 a) (h2 : ok64 b) (h3 : ok64 t) : CallT Try.prog 6 [i64 c, i64 a, i64 b, i64 t] [] fun d _ => d = .v (.bool true) := by
  simp only [i64]
  by_cases g1 : c < 0
  · refine callT_of k6_ok k6_name (Z.T hmix ?_)
    simp only [k6, k6c, g1, zz, leaves, undef, pin, Int.reduceLT, C.lps, C.isLoop, bsliceD, contents, gate, evalI, St.ev, St.put, List.replicate, Nat.reduceSub, Nat.reduceAdd, binJ, lenOfD, ressD, resD, D.ok, D.cells, one, reduceCtorEq, Nat.reduceEqDiff, Int.reduceEq]
    refine callX_eq (awake03 _) ?_
    simp only [zz, leaves, undef, pin, Int.reduceLT, C.lps, C.isLoop, bsliceD, contents, gate, evalI, St.ev, St.put, List.replicate, Nat.reduceSub, Nat.reduceAdd, binJ, lenOfD, ressD, resD, D.ok, D.cells, one, reduceCtorEq, Nat.reduceEqDiff, Int.reduceEq]
  by_cases g2 : 1000000000000000 < c
  · refine callT_of k6_ok k6_name (Z.T hmix ?_)
    simp only [k6, k6c, g1, g2, zz, leaves, undef, pin, Int.reduceLT, C.lps, C.isLoop, bsliceD, contents, gate, evalI, St.ev, St.put, List.replicate, Nat.reduceSub, Nat.reduceAdd, binJ, lenOfD, ressD, resD, D.ok, D.cells, one, reduceCtorEq, Nat.reduceEqDiff, Int.reduceEq]
    refine callX_eq (awake03 _) ?_
    simp only [zz, leaves, undef, pin, Int.reduceLT, C.lps, C.isLoop, bsliceD, contents, gate, evalI, St.ev, St.put, List.replicate, Nat.reduceSub, Nat.reduceAdd, binJ, lenOfD, ressD, resD, D.ok, D.cells, one, reduceCtorEq, Nat.reduceEqDiff, Int.reduceEq]
  by_cases g3 : t < 1
  · refine callT_of k6_ok k6_name (Z.T hmix ?_)
    simp only [k6, k6c, g1, g2, g3, zz, leaves, undef, pin, Int.reduceLT, C.lps, C.isLoop, bsliceD, contents, gate, evalI, St.ev, St.put, List.replicate, Nat.reduceSub, Nat.reduceAdd, binJ, lenOfD, ressD, resD, D.ok, D.cells, one, reduceCtorEq, Nat.reduceEqDiff, Int.reduceEq]
    refine callX_eq (awake03 _) ?_
    simp only [zz, leaves, undef, pin, Int.reduceLT, C.lps, C.isLoop, bsliceD, contents, gate, evalI, St.ev, St.put, List.replicate, Nat.reduceSub, Nat.reduceAdd, binJ, lenOfD, ressD, resD, D.ok, D.cells, one, reduceCtorEq, Nat.reduceEqDiff, Int.reduceEq]
  by_cases g4 : 109573 < t
  · refine callT_of k6_ok k6_name (Z.T hmix ?_)
    simp only [k6, k6c, g1, g2, g3, g4, zz, leaves, undef, pin, Int.reduceLT, C.lps, C.isLoop, bsliceD, contents, gate, evalI, St.ev, St.put, List.replicate, Nat.reduceSub, Nat.reduceAdd, binJ, lenOfD, ressD, resD, D.ok, D.cells, one, reduceCtorEq, Nat.reduceEqDiff, Int.reduceEq]
    refine callX_eq (awake03 _) ?_
    simp only [zz, leaves, undef, pin, Int.reduceLT, C.lps, C.isLoop, bsliceD, contents, gate, evalI, St.ev, St.put, List.replicate, Nat.reduceSub, Nat.reduceAdd, binJ, lenOfD, ressD, resD, D.ok, D.cells, one, reduceCtorEq, Nat.reduceEqDiff, Int.reduceEq]
  by_cases g5 : a < 0
  · refine callT_of k6_ok k6_name (Z.T hmix ?_)
    simp only [k6, k6c, g1, g2, g3, g4, g5, zz, leaves, undef, pin, Int.reduceLT, C.lps, C.isLoop, bsliceD, contents, gate, evalI, St.ev, St.put, List.replicate, Nat.reduceSub, Nat.reduceAdd, binJ, lenOfD, ressD, resD, D.ok, D.cells, one, reduceCtorEq, Nat.reduceEqDiff, Int.reduceEq]
    refine callX_eq (awake03 _) ?_
    simp only [zz, leaves, undef, pin, Int.reduceLT, C.lps, C.isLoop, bsliceD, contents, gate, evalI, St.ev, St.put, List.replicate, Nat.reduceSub, Nat.reduceAdd, binJ, lenOfD, ressD, resD, D.ok, D.cells, one, reduceCtorEq, Nat.reduceEqDiff, Int.reduceEq]
  by_cases g6 : t < a
  · refine callT_of k6_ok k6_name (Z.T hmix ?_)
    simp only [k6, k6c, g1, g2, g3, g4, g5, g6, zz, leaves, undef, pin, Int.reduceLT, C.lps, C.isLoop, bsliceD, contents, gate, evalI, St.ev, St.put, List.replicate, Nat.reduceSub, Nat.reduceAdd, binJ, lenOfD, ressD, resD, D.ok, D.cells, one, reduceCtorEq, Nat.reduceEqDiff, Int.reduceEq]
    refine callX_eq (awake03 _) ?_
    simp only [zz, leaves, undef, pin, Int.reduceLT, C.lps, C.isLoop, bsliceD, contents, gate, evalI, St.ev, St.put, List.replicate, Nat.reduceSub, Nat.reduceAdd, binJ, lenOfD, ressD, resD, D.ok, D.cells, one, reduceCtorEq, Nat.reduceEqDiff, Int.reduceEq]
  by_cases g7 : b < 0
  · refine callT_of k6_ok k6_name (Z.T hmix ?_)
    simp only [k6, k6c, g1, g2, g3, g4, g5, g6, g7, zz, leaves, undef, pin, Int.reduceLT, C.lps, C.isLoop, bsliceD, contents, gate, evalI, St.ev, St.put, List.replicate, Nat.reduceSub, Nat.reduceAdd, binJ, lenOfD, ressD, resD, D.ok, D.cells, one, reduceCtorEq, Nat.reduceEqDiff, Int.reduceEq]
    refine callX_eq (awake03 _) ?_
    simp only [zz, leaves, undef, pin, Int.reduceLT, C.lps, C.isLoop, bsliceD, contents, gate, evalI, St.ev, St.put, List.replicate, Nat.reduceSub, Nat.reduceAdd, binJ, lenOfD, ressD, resD, D.ok, D.cells, one, reduceCtorEq, Nat.reduceEqDiff, Int.reduceEq]
  have w1 : wrapF .i64 (t - a) = t - a := wrapI (by omega)
  by_cases g8 : t - a < b
  · refine callT_of k6_ok k6_name (Z.T hmix ?_)
    simp only [k6, k6c, g1, g2, g3, g4, g5, g6, g7, w1, g8, zz, leaves, undef, pin, Int.reduceLT, C.lps, C.isLoop, bsliceD, contents, gate, evalI, St.ev, St.put, List.replicate, Nat.reduceSub, Nat.reduceAdd, binJ, lenOfD, ressD, resD, D.ok, D.cells, one, reduceCtorEq, Nat.reduceEqDiff, Int.reduceEq]
    refine callX_eq (awake03 _) ?_
    simp only [zz, leaves, undef, pin, Int.reduceLT, C.lps, C.isLoop, bsliceD, contents, gate, evalI, St.ev, St.put, List.replicate, Nat.reduceSub, Nat.reduceAdd, binJ, lenOfD, ressD, resD, D.ok, D.cells, one, reduceCtorEq, Nat.reduceEqDiff, Int.reduceEq]
  have w2 : wrapF .i64 (a + b) = a + b := wrapI (by omega)
  refine callT_of k6_ok k6_name (Z.T hmix ?_)
  simp only [k6, k6c, g1, g2, g3, g4, g5, g6, g7, w1, g8, zz, leaves, undef, pin, Int.reduceLT, C.lps, C.isLoop, bsliceD, contents, gate, evalI, St.ev, St.put, List.replicate, Nat.reduceSub, Nat.reduceAdd, binJ, lenOfD, ressD, resD, D.ok, D.cells, one, reduceCtorEq, Nat.reduceEqDiff, Int.reduceEq]
  have z : ok64 0 := by unfold ok64; omega
  refine callX_eq (pro12 c a t 0 h0 h1 h3 _) ?_
  rw [pr_floor (by omega) (by omega) (by omega)]
  simp only [zz, leaves, undef, pin, Int.reduceLT, C.lps, C.isLoop, bsliceD, contents, gate, evalI, St.ev, St.put, List.replicate, Nat.reduceSub, Nat.reduceAdd, binJ, lenOfD, ressD, resD, D.ok, D.cells, one, reduceCtorEq, Nat.reduceEqDiff, Int.reduceEq, mdD, i64]
  refine callX_eq (pro12 c b t 0 h0 h2 h3 _) ?_
  rw [pr_floor (by omega) (by omega) (by omega)]
  simp only [zz, leaves, undef, pin, Int.reduceLT, C.lps, C.isLoop, bsliceD, contents, gate, evalI, St.ev, St.put, List.replicate, Nat.reduceSub, Nat.reduceAdd, binJ, lenOfD, ressD, resD, D.ok, D.cells, one, reduceCtorEq, Nat.reduceEqDiff, Int.reduceEq, mdD, i64, w2]
  refine callX_eq (pro12 c (a + b) t 0 h0 (by unfold ok64; omega) h3 _) ?_
  rw [pr_floor (by omega) (by omega) (by omega)]
  obtain ⟨q1, q2, q3⟩ := floor_sum c.natAbs a.natAbs b.natAbs t.natAbs (by omega) (by omega)
  rw [show (a + b).natAbs = a.natAbs + b.natAbs by omega]
  generalize c.natAbs * (a.natAbs + b.natAbs) / t.natAbs = uu at *
  generalize c.natAbs * a.natAbs / t.natAbs = xx at *
  generalize c.natAbs * b.natAbs / t.natAbs = yy at *
  have w3 : wrapF .i64 ((xx : Int) + (yy : Int)) = (xx : Int) + yy := wrapI (by omega)
  have w4 : wrapF .i64 ((xx : Int) + (yy : Int) + 1) = (xx : Int) + yy + 1 := wrapI (by omega)
  have p1 : (xx : Int) + (yy : Int) ≤ (uu : Int) := by omega
  have p2 : (uu : Int) ≤ (xx : Int) + (yy : Int) + 1 := by omega
  have p3 : (uu : Int) ≤ c := by omega
  simp only [zz, leaves, undef, pin, Int.reduceLT, C.lps, C.isLoop, bsliceD, contents, gate, evalI, St.ev, St.put, List.replicate, Nat.reduceSub, Nat.reduceAdd, binJ, lenOfD, ressD, resD, D.ok, D.cells, one, reduceCtorEq, Nat.reduceEqDiff, Int.reduceEq, mdD, i64, w3, w4, p1, p2, p3]
  refine callX_eq (awake03 _) ?_
  simp only [zz, leaves, undef, pin, Int.reduceLT, C.lps, C.isLoop, bsliceD, contents, gate, evalI, St.ev, St.put, List.replicate, Nat.reduceSub, Nat.reduceAdd, binJ, lenOfD, ressD, resD, D.ok, D.cells, one, reduceCtorEq, Nat.reduceEqDiff, Int.reduceEq]

def otherM (mode : Int) : Int := if mode = 0 then 1 else if mode = 1 then 0 else mode
theorem up_other {neg : Bool} {mode : Int} {q r d : Nat} : upN (!neg) (otherM mode) q r d ↔ upN neg mode q r d := by
  unfold upN otherM
  by_cases h0 : mode = 0
  · subst h0; cases neg <;> simp
  · by_cases h1 : mode = 1
    · subst h1; cases neg <;> simp
    · simp [h0, h1]
theorem rnd_other {neg : Bool} {mode : Int} {q r d : Nat} : rndN (!neg) (otherM mode) q r d = rndN neg mode q r d := by
  unfold rndN
  by_cases h : upN neg mode q r d
  · rw [if_pos h, if_pos (up_other.2 h)]
  · rw [if_neg h, if_neg (fun h' => h (up_other.1 h'))]
theorem sgn_not (neg : Bool) (n : Nat) : sgn (!neg) n = -sgn neg n := by unfold sgn; cases neg <;> simp
theorem rnd_zero (neg : Bool) (mode : Int) {d : Nat} (hd : 0 < d) : rndN neg mode 0 0 d = 0 := up_no (up_zero hd)

/-- The other sign. -/
theorem fr_neg {num den mode : Int} (hm : okMode mode) (hn : ¬ bey num 1000000000000000) (hd : ¬ bey den 1000000000000000) :
    (frS (-num) den (otherM mode)).1 = -(frS num den mode).1 ∧ (frS (-num) den (otherM mode)).2 = (frS num den mode).2 ∧
    (frS num (-den) (otherM mode)).1 = -(frS num den mode).1 ∧ (frS num (-den) (otherM mode)).2 = (frS num den mode).2 := by
  have hm' : okMode (otherM mode) := by unfold okMode otherM at *; split <;> (try split) <;> omega
  have hn' : ¬ bey (-num) 1000000000000000 := by unfold bey at *; omega
  have hd' : ¬ bey (-den) 1000000000000000 := by unfold bey at *; omega
  unfold frS
  rw [if_pos hm', if_pos hm, if_pos hm']
  by_cases h0 : den = 0
  · rw [if_pos h0, if_pos h0, if_pos (show -den = 0 by omega)]; simp
  · rw [if_neg h0, if_neg h0, if_neg (show ¬ -den = 0 by omega), if_neg (show ¬ (bey (-num) 1000000000000000 ∨ bey den 1000000000000000) from fun h => h.elim hn' hd),
      if_neg (show ¬ (bey num 1000000000000000 ∨ bey den 1000000000000000) from fun h => h.elim hn hd), if_neg (show ¬ (bey num 1000000000000000 ∨ bey (-den) 1000000000000000) from fun h => h.elim hn hd'), Int.natAbs_neg, Int.natAbs_neg]
    have flip : ∀ n : Int, ¬ n = 0 → decide (-n < 0) = !decide (n < 0) := fun n hn => by
      by_cases c : n < 0
      · rw [decide_eq_true c, decide_eq_false (show ¬ -n < 0 by omega)]; rfl
      · rw [decide_eq_false c, decide_eq_true (show -n < 0 by omega)]; rfl
    have e2 : neg2 num (-den) = !neg2 num den := by
      unfold neg2; rw [flip den h0]; cases decide (num < 0) <;> cases decide (den < 0) <;> rfl
    have hdp : 0 < den.natAbs := by omega
    by_cases z : num = 0
    · subst z
      simp only [Int.natAbs_zero, Nat.zero_mul, Nat.zero_div, Nat.zero_mod, rnd_zero _ _ hdp]
      unfold sgn
      simp
    · have e1 : neg2 (-num) den = !neg2 num den := by
        unfold neg2; rw [flip num z]; cases decide (num < 0) <;> cases decide (den < 0) <;> rfl
      rw [e1, e2, rnd_other]
      split
      · exact ⟨sgn_not _ _, rfl, sgn_not _ _, rfl⟩
      · simp

theorem lawNegation (a b mode : Int) (h0 : ok64 a) (h1 : ok64 b) : CallT Try.prog 7 [i64 a, i64 b, i64 mode] [] fun d _ => d = .v (.bool true) := by
  simp only [i64]
  by_cases g1 : a < -1000000000000000
  · refine callT_of k7_ok k7_name (Z.T hmix ?_)
    simp only [k7, k7c, g1, zz, leaves, undef, pin, Int.reduceLT, C.lps, C.isLoop, bsliceD, contents, gate, evalI, St.ev, St.put, List.replicate, Nat.reduceSub, Nat.reduceAdd, binJ, lenOfD, ressD, resD, D.ok, D.cells, one, reduceCtorEq, Nat.reduceEqDiff, Int.reduceEq]
    refine callX_eq (awake03 _) ?_
    simp only [zz, leaves, undef, pin, Int.reduceLT, C.lps, C.isLoop, bsliceD, contents, gate, evalI, St.ev, St.put, List.replicate, Nat.reduceSub, Nat.reduceAdd, binJ, lenOfD, ressD, resD, D.ok, D.cells, one, reduceCtorEq, Nat.reduceEqDiff, Int.reduceEq]
  by_cases g2 : 1000000000000000 < a
  · refine callT_of k7_ok k7_name (Z.T hmix ?_)
    simp only [k7, k7c, g1, g2, zz, leaves, undef, pin, Int.reduceLT, C.lps, C.isLoop, bsliceD, contents, gate, evalI, St.ev, St.put, List.replicate, Nat.reduceSub, Nat.reduceAdd, binJ, lenOfD, ressD, resD, D.ok, D.cells, one, reduceCtorEq, Nat.reduceEqDiff, Int.reduceEq]
    refine callX_eq (awake03 _) ?_
    simp only [zz, leaves, undef, pin, Int.reduceLT, C.lps, C.isLoop, bsliceD, contents, gate, evalI, St.ev, St.put, List.replicate, Nat.reduceSub, Nat.reduceAdd, binJ, lenOfD, ressD, resD, D.ok, D.cells, one, reduceCtorEq, Nat.reduceEqDiff, Int.reduceEq]
  by_cases g3 : b < -1000000000000000
  · refine callT_of k7_ok k7_name (Z.T hmix ?_)
    simp only [k7, k7c, g1, g2, g3, zz, leaves, undef, pin, Int.reduceLT, C.lps, C.isLoop, bsliceD, contents, gate, evalI, St.ev, St.put, List.replicate, Nat.reduceSub, Nat.reduceAdd, binJ, lenOfD, ressD, resD, D.ok, D.cells, one, reduceCtorEq, Nat.reduceEqDiff, Int.reduceEq]
    refine callX_eq (awake03 _) ?_
    simp only [zz, leaves, undef, pin, Int.reduceLT, C.lps, C.isLoop, bsliceD, contents, gate, evalI, St.ev, St.put, List.replicate, Nat.reduceSub, Nat.reduceAdd, binJ, lenOfD, ressD, resD, D.ok, D.cells, one, reduceCtorEq, Nat.reduceEqDiff, Int.reduceEq]
  by_cases g4 : 1000000000000000 < b
  · refine callT_of k7_ok k7_name (Z.T hmix ?_)
    simp only [k7, k7c, g1, g2, g3, g4, zz, leaves, undef, pin, Int.reduceLT, C.lps, C.isLoop, bsliceD, contents, gate, evalI, St.ev, St.put, List.replicate, Nat.reduceSub, Nat.reduceAdd, binJ, lenOfD, ressD, resD, D.ok, D.cells, one, reduceCtorEq, Nat.reduceEqDiff, Int.reduceEq]
    refine callX_eq (awake03 _) ?_
    simp only [zz, leaves, undef, pin, Int.reduceLT, C.lps, C.isLoop, bsliceD, contents, gate, evalI, St.ev, St.put, List.replicate, Nat.reduceSub, Nat.reduceAdd, binJ, lenOfD, ressD, resD, D.ok, D.cells, one, reduceCtorEq, Nat.reduceEqDiff, Int.reduceEq]
  by_cases g5 : mode < 0
  · refine callT_of k7_ok k7_name (Z.T hmix ?_)
    simp only [k7, k7c, g1, g2, g3, g4, g5, zz, leaves, undef, pin, Int.reduceLT, C.lps, C.isLoop, bsliceD, contents, gate, evalI, St.ev, St.put, List.replicate, Nat.reduceSub, Nat.reduceAdd, binJ, lenOfD, ressD, resD, D.ok, D.cells, one, reduceCtorEq, Nat.reduceEqDiff, Int.reduceEq]
    refine callX_eq (awake03 _) ?_
    simp only [zz, leaves, undef, pin, Int.reduceLT, C.lps, C.isLoop, bsliceD, contents, gate, evalI, St.ev, St.put, List.replicate, Nat.reduceSub, Nat.reduceAdd, binJ, lenOfD, ressD, resD, D.ok, D.cells, one, reduceCtorEq, Nat.reduceEqDiff, Int.reduceEq]
  by_cases g6 : 5 < mode
  · refine callT_of k7_ok k7_name (Z.T hmix ?_)
    simp only [k7, k7c, g1, g2, g3, g4, g5, g6, zz, leaves, undef, pin, Int.reduceLT, C.lps, C.isLoop, bsliceD, contents, gate, evalI, St.ev, St.put, List.replicate, Nat.reduceSub, Nat.reduceAdd, binJ, lenOfD, ressD, resD, D.ok, D.cells, one, reduceCtorEq, Nat.reduceEqDiff, Int.reduceEq]
    refine callX_eq (awake03 _) ?_
    simp only [zz, leaves, undef, pin, Int.reduceLT, C.lps, C.isLoop, bsliceD, contents, gate, evalI, St.ev, St.put, List.replicate, Nat.reduceSub, Nat.reduceAdd, binJ, lenOfD, ressD, resD, D.ok, D.cells, one, reduceCtorEq, Nat.reduceEqDiff, Int.reduceEq]
  obtain ⟨f1, f2, f3, f4⟩ := fr_neg (num := a) (den := b) (mode := mode) (by unfold okMode; omega) (by unfold bey; omega) (by unfold bey; omega)
  have w1 : wrapF .i64 (-a) = -a := wrapI (by omega)
  have w2 : wrapF .i64 (-b) = -b := wrapI (by omega)
  have hr : (frS a b mode).1 ≤ 1000000000 ∧ -1000000000 ≤ (frS a b mode).1 := by
    unfold frS
    split
    · split
      · simp
      · split
        · simp
        · split
          · rename_i hle
            unfold sgn; simp only; split <;> omega
          · simp
    · simp
  have w3 : wrapF .i64 (- -(frS a b mode).1) = (frS a b mode).1 := by rw [Int.neg_neg]; exact wrapI (by omega)
  by_cases e0 : mode = 0
  · have eo : otherM mode = 1 := by unfold otherM; rw [if_pos e0]
    rw [eo] at f1 f2 f3 f4
    subst e0
    refine callT_of k7_ok k7_name (Z.T hmix ?_)
    simp only [k7, k7c, g1, g2, g3, g4, zz, leaves, undef, pin, Int.reduceLT, C.lps, C.isLoop, bsliceD, contents, gate, evalI, St.ev, St.put, List.replicate, Nat.reduceSub, Nat.reduceAdd, binJ, lenOfD, ressD, resD, D.ok, D.cells, one, reduceCtorEq, Nat.reduceEqDiff, Int.reduceEq]
    refine callX_eq (fr9 a b 0 _) ?_
    simp only [zz, leaves, undef, pin, Int.reduceLT, C.lps, C.isLoop, bsliceD, contents, gate, evalI, St.ev, St.put, List.replicate, Nat.reduceSub, Nat.reduceAdd, binJ, lenOfD, ressD, resD, D.ok, D.cells, one, reduceCtorEq, Nat.reduceEqDiff, Int.reduceEq, mdD, i64, w1]
    refine callX_eq (fr9 (-a) b 1 _) ?_
    simp only [zz, leaves, undef, pin, Int.reduceLT, C.lps, C.isLoop, bsliceD, contents, gate, evalI, St.ev, St.put, List.replicate, Nat.reduceSub, Nat.reduceAdd, binJ, lenOfD, ressD, resD, D.ok, D.cells, one, reduceCtorEq, Nat.reduceEqDiff, Int.reduceEq, mdD, i64, w2, f1, f2]
    refine callX_eq (fr9 a (-b) 1 _) ?_
    simp only [zz, leaves, undef, pin, Int.reduceLT, C.lps, C.isLoop, bsliceD, contents, gate, evalI, St.ev, St.put, List.replicate, Nat.reduceSub, Nat.reduceAdd, binJ, lenOfD, ressD, resD, D.ok, D.cells, one, reduceCtorEq, Nat.reduceEqDiff, Int.reduceEq, mdD, i64, f3, f4, w3]
    refine callX_eq (awake03 _) ?_
    simp only [zz, leaves, undef, pin, Int.reduceLT, C.lps, C.isLoop, bsliceD, contents, gate, evalI, St.ev, St.put, List.replicate, Nat.reduceSub, Nat.reduceAdd, binJ, lenOfD, ressD, resD, D.ok, D.cells, one, reduceCtorEq, Nat.reduceEqDiff, Int.reduceEq]
  by_cases e1 : mode = 1
  · have eo : otherM mode = 0 := by unfold otherM; rw [if_neg e0, if_pos e1]
    rw [eo] at f1 f2 f3 f4
    subst e1
    refine callT_of k7_ok k7_name (Z.T hmix ?_)
    simp only [k7, k7c, g1, g2, g3, g4, zz, leaves, undef, pin, Int.reduceLT, C.lps, C.isLoop, bsliceD, contents, gate, evalI, St.ev, St.put, List.replicate, Nat.reduceSub, Nat.reduceAdd, binJ, lenOfD, ressD, resD, D.ok, D.cells, one, reduceCtorEq, Nat.reduceEqDiff, Int.reduceEq]
    refine callX_eq (fr9 a b 1 _) ?_
    simp only [zz, leaves, undef, pin, Int.reduceLT, C.lps, C.isLoop, bsliceD, contents, gate, evalI, St.ev, St.put, List.replicate, Nat.reduceSub, Nat.reduceAdd, binJ, lenOfD, ressD, resD, D.ok, D.cells, one, reduceCtorEq, Nat.reduceEqDiff, Int.reduceEq, mdD, i64, w1]
    refine callX_eq (fr9 (-a) b 0 _) ?_
    simp only [zz, leaves, undef, pin, Int.reduceLT, C.lps, C.isLoop, bsliceD, contents, gate, evalI, St.ev, St.put, List.replicate, Nat.reduceSub, Nat.reduceAdd, binJ, lenOfD, ressD, resD, D.ok, D.cells, one, reduceCtorEq, Nat.reduceEqDiff, Int.reduceEq, mdD, i64, w2, f1, f2]
    refine callX_eq (fr9 a (-b) 0 _) ?_
    simp only [zz, leaves, undef, pin, Int.reduceLT, C.lps, C.isLoop, bsliceD, contents, gate, evalI, St.ev, St.put, List.replicate, Nat.reduceSub, Nat.reduceAdd, binJ, lenOfD, ressD, resD, D.ok, D.cells, one, reduceCtorEq, Nat.reduceEqDiff, Int.reduceEq, mdD, i64, f3, f4, w3]
    refine callX_eq (awake03 _) ?_
    simp only [zz, leaves, undef, pin, Int.reduceLT, C.lps, C.isLoop, bsliceD, contents, gate, evalI, St.ev, St.put, List.replicate, Nat.reduceSub, Nat.reduceAdd, binJ, lenOfD, ressD, resD, D.ok, D.cells, one, reduceCtorEq, Nat.reduceEqDiff, Int.reduceEq]
  have eo : otherM mode = mode := by unfold otherM; rw [if_neg e0, if_neg e1]
  rw [eo] at f1 f2 f3 f4
  refine callT_of k7_ok k7_name (Z.T hmix ?_)
  simp only [k7, k7c, g1, g2, g3, g4, g5, g6, e0, e1, zz, leaves, undef, pin, Int.reduceLT, C.lps, C.isLoop, bsliceD, contents, gate, evalI, St.ev, St.put, List.replicate, Nat.reduceSub, Nat.reduceAdd, binJ, lenOfD, ressD, resD, D.ok, D.cells, one, reduceCtorEq, Nat.reduceEqDiff, Int.reduceEq]
  refine callX_eq (fr9 a b mode _) ?_
  simp only [zz, leaves, undef, pin, Int.reduceLT, C.lps, C.isLoop, bsliceD, contents, gate, evalI, St.ev, St.put, List.replicate, Nat.reduceSub, Nat.reduceAdd, binJ, lenOfD, ressD, resD, D.ok, D.cells, one, reduceCtorEq, Nat.reduceEqDiff, Int.reduceEq, mdD, i64, w1]
  refine callX_eq (fr9 (-a) b mode _) ?_
  simp only [zz, leaves, undef, pin, Int.reduceLT, C.lps, C.isLoop, bsliceD, contents, gate, evalI, St.ev, St.put, List.replicate, Nat.reduceSub, Nat.reduceAdd, binJ, lenOfD, ressD, resD, D.ok, D.cells, one, reduceCtorEq, Nat.reduceEqDiff, Int.reduceEq, mdD, i64, w2, f1, f2]
  refine callX_eq (fr9 a (-b) mode _) ?_
  simp only [zz, leaves, undef, pin, Int.reduceLT, C.lps, C.isLoop, bsliceD, contents, gate, evalI, St.ev, St.put, List.replicate, Nat.reduceSub, Nat.reduceAdd, binJ, lenOfD, ressD, resD, D.ok, D.cells, one, reduceCtorEq, Nat.reduceEqDiff, Int.reduceEq, mdD, i64, f3, f4, w3]
  refine callX_eq (awake03 _) ?_
  simp only [zz, leaves, undef, pin, Int.reduceLT, C.lps, C.isLoop, bsliceD, contents, gate, evalI, St.ev, St.put, List.replicate, Nat.reduceSub, Nat.reduceAdd, binJ, lenOfD, ressD, resD, D.ok, D.cells, one, reduceCtorEq, Nat.reduceEqDiff, Int.reduceEq]
end Go.Proofs.Ytmocaajdcjgohaa
