/-
  rate: the small functions; rounding of a floor quotient.
-/
import Derived.Test.YtmocaajdcjgohaaMon4
import Derived.Test.YtmocaajdcjgohaaTmT
set_option linter.unusedSimpArgs false
set_option linter.unusedVariables false
set_option maxHeartbeats 2000000
namespace Go.Proofs.Ytmocaajdcjgohaa
open Go.Tm
set_option maxRecDepth 10000

theorem m20 (n : Int) (m : List Ent) : CallT Try.prog 20 [i64 n] m fun d m' => d = .v (.bool (decide (okMode n))) ∧ m' = m := by
  simp only [i64, okMode]
  by_cases h : 0 ≤ n
  · by_cases h2 : n ≤ 5
    · refine callT_of k20_ok k20_name (Z.T hmix ?_)
      simp only [k20, k20c, h, h2, zz, leaves, undef, pin, Int.reduceLT, C.lps, C.isLoop, bsliceD, contents, gate, evalI, St.ev, St.put, List.replicate, Nat.reduceSub, Nat.reduceAdd, binJ, lenOfD, ressD, resD, D.ok, D.cells, one, reduceCtorEq, Nat.reduceEqDiff, Int.reduceEq]
    · refine callT_of k20_ok k20_name (Z.T hmix ?_)
      simp only [k20, k20c, h, h2, and_false, zz, leaves, undef, pin, Int.reduceLT, C.lps, C.isLoop, bsliceD, contents, gate, evalI, St.ev, St.put, List.replicate, Nat.reduceSub, Nat.reduceAdd, binJ, lenOfD, ressD, resD, D.ok, D.cells, one, reduceCtorEq, Nat.reduceEqDiff, Int.reduceEq]
  · refine callT_of k20_ok k20_name (Z.T hmix ?_)
    simp only [k20, k20c, h, false_and, zz, leaves, undef, pin, Int.reduceLT, C.lps, C.isLoop, bsliceD, contents, gate, evalI, St.ev, St.put, List.replicate, Nat.reduceSub, Nat.reduceAdd, binJ, lenOfD, ressD, resD, D.ok, D.cells, one, reduceCtorEq, Nat.reduceEqDiff, Int.reduceEq]

theorem b21 (n k : Int) (hk : ok64 (-k)) (m : List Ent) : CallT Try.prog 21 [i64 n, i64 k] m fun d m' => d = .v (.bool (decide (bey n k))) ∧ m' = m := by
  simp only [i64, bey]
  have w := hk.wrap
  by_cases h : k < n
  · refine callT_of k21_ok k21_name (Z.T hmix ?_)
    simp only [k21, k21c, h, true_or, zz, leaves, undef, pin, Int.reduceLT, C.lps, C.isLoop, bsliceD, contents, gate, evalI, St.ev, St.put, List.replicate, Nat.reduceSub, Nat.reduceAdd, binJ, lenOfD, ressD, resD, D.ok, D.cells, one, reduceCtorEq, Nat.reduceEqDiff, Int.reduceEq]
  · by_cases h2 : n < -k
    · refine callT_of k21_ok k21_name (Z.T hmix ?_)
      simp only [k21, k21c, h, h2, w, or_true, zz, leaves, undef, pin, Int.reduceLT, C.lps, C.isLoop, bsliceD, contents, gate, evalI, St.ev, St.put, List.replicate, Nat.reduceSub, Nat.reduceAdd, binJ, lenOfD, ressD, resD, D.ok, D.cells, one, reduceCtorEq, Nat.reduceEqDiff, Int.reduceEq]
    · refine callT_of k21_ok k21_name (Z.T hmix ?_)
      simp only [k21, k21c, h, h2, w, or_self, zz, leaves, undef, pin, Int.reduceLT, C.lps, C.isLoop, bsliceD, contents, gate, evalI, St.ev, St.put, List.replicate, Nat.reduceSub, Nat.reduceAdd, binJ, lenOfD, ressD, resD, D.ok, D.cells, one, reduceCtorEq, Nat.reduceEqDiff, Int.reduceEq]

theorem b25 (n k : Int) (hk : ok64 (-k)) (m : List Ent) : CallT Try.prog 25 [i64 n, i64 k] m fun d m' => d = .v (.bool (decide (bey n k))) ∧ m' = m := by
  simp only [i64, bey]
  have w := hk.wrap
  by_cases h : k < n
  · refine callT_of k25_ok k25_name (Z.T hmix ?_)
    simp only [k25, k25c, h, true_or, zz, leaves, undef, pin, Int.reduceLT, C.lps, C.isLoop, bsliceD, contents, gate, evalI, St.ev, St.put, List.replicate, Nat.reduceSub, Nat.reduceAdd, binJ, lenOfD, ressD, resD, D.ok, D.cells, one, reduceCtorEq, Nat.reduceEqDiff, Int.reduceEq]
  · by_cases h2 : n < -k
    · refine callT_of k25_ok k25_name (Z.T hmix ?_)
      simp only [k25, k25c, h, h2, w, or_true, Int.zero_sub, zz, leaves, undef, pin, Int.reduceLT, C.lps, C.isLoop, bsliceD, contents, gate, evalI, St.ev, St.put, List.replicate, Nat.reduceSub, Nat.reduceAdd, binJ, lenOfD, ressD, resD, D.ok, D.cells, one, reduceCtorEq, Nat.reduceEqDiff, Int.reduceEq]
    · refine callT_of k25_ok k25_name (Z.T hmix ?_)
      simp only [k25, k25c, h, h2, w, or_self, Int.zero_sub, zz, leaves, undef, pin, Int.reduceLT, C.lps, C.isLoop, bsliceD, contents, gate, evalI, St.ev, St.put, List.replicate, Nat.reduceSub, Nat.reduceAdd, binJ, lenOfD, ressD, resD, D.ok, D.cells, one, reduceCtorEq, Nat.reduceEqDiff, Int.reduceEq]

theorem rup24 (q r d : Nat) (neg : Bool) (mode : Int) (hr : r < d) (hd : d < 9223372036854775808) (m : List Ent) :
    CallT Try.prog 24 [u64 q, u64 r, u64 d, .v (.bool neg), i64 mode] m fun e m' => e = .v (.bool (decide (upN neg mode q r d))) ∧ m' = m := by
  simp only [i64, u64]
  have w2 : wrapF .u64 ((d : Int) - (r : Int)) = ((d - r : Nat) : Int) := by rw [wrapU64 (by omega)]; omega
  by_cases c0 : r = 0
  · subst c0
    have u : ¬ upN neg mode q 0 d := up_zero hr
    refine callT_of k24_ok k24_name (Z.T hmix ?_)
    simp only [k24, k24c, u, cast0, zz, leaves, undef, pin, Int.reduceLT, C.lps, C.isLoop, bsliceD, contents, gate, evalI, St.ev, St.put, List.replicate, Nat.reduceSub, Nat.reduceAdd, binJ, lenOfD, ressD, resD, D.ok, D.cells, one, reduceCtorEq, Nat.reduceEqDiff, Int.reduceEq]
  · have c0' : ¬ (r : Int) = 0 := by omega
    by_cases e0 : mode = 0
    · subst e0
      cases neg
      · have u : ¬ upN false 0 q r d := by simp [upN]
        refine callT_of k24_ok k24_name (Z.T hmix ?_)
        simp only [k24, k24c, c0', u, zz, leaves, undef, pin, Int.reduceLT, C.lps, C.isLoop, bsliceD, contents, gate, evalI, St.ev, St.put, List.replicate, Nat.reduceSub, Nat.reduceAdd, binJ, lenOfD, ressD, resD, D.ok, D.cells, one, reduceCtorEq, Nat.reduceEqDiff, Int.reduceEq]
      · have u : upN true 0 q r d := by simp [upN]; omega
        refine callT_of k24_ok k24_name (Z.T hmix ?_)
        simp only [k24, k24c, c0', u, zz, leaves, undef, pin, Int.reduceLT, C.lps, C.isLoop, bsliceD, contents, gate, evalI, St.ev, St.put, List.replicate, Nat.reduceSub, Nat.reduceAdd, binJ, lenOfD, ressD, resD, D.ok, D.cells, one, reduceCtorEq, Nat.reduceEqDiff, Int.reduceEq]
    · by_cases e1 : mode = 1
      · subst e1
        cases neg
        · have u : upN false 1 q r d := by simp [upN]; omega
          refine callT_of k24_ok k24_name (Z.T hmix ?_)
          simp only [k24, k24c, c0', u, zz, leaves, undef, pin, Int.reduceLT, C.lps, C.isLoop, bsliceD, contents, gate, evalI, St.ev, St.put, List.replicate, Nat.reduceSub, Nat.reduceAdd, binJ, lenOfD, ressD, resD, D.ok, D.cells, one, reduceCtorEq, Nat.reduceEqDiff, Int.reduceEq]
        · have u : ¬ upN true 1 q r d := by simp [upN]
          refine callT_of k24_ok k24_name (Z.T hmix ?_)
          simp only [k24, k24c, c0', u, zz, leaves, undef, pin, Int.reduceLT, C.lps, C.isLoop, bsliceD, contents, gate, evalI, St.ev, St.put, List.replicate, Nat.reduceSub, Nat.reduceAdd, binJ, lenOfD, ressD, resD, D.ok, D.cells, one, reduceCtorEq, Nat.reduceEqDiff, Int.reduceEq]
      · by_cases e3 : mode = 3
        · subst e3
          have u : upN neg 3 q r d := by simp [upN]; omega
          refine callT_of k24_ok k24_name (Z.T hmix ?_)
          simp only [k24, k24c, c0', u, zz, leaves, undef, pin, Int.reduceLT, C.lps, C.isLoop, bsliceD, contents, gate, evalI, St.ev, St.put, List.replicate, Nat.reduceSub, Nat.reduceAdd, binJ, lenOfD, ressD, resD, D.ok, D.cells, one, reduceCtorEq, Nat.reduceEqDiff, Int.reduceEq]
        · by_cases e4 : mode = 4
          · subst e4
            by_cases c : d - r ≤ r
            · have u : upN neg 4 q r d := by simp [upN]; omega
              have c' : ((d - r : Nat) : Int) ≤ (r : Int) := by omega
              refine callT_of k24_ok k24_name (Z.T hmix ?_)
              simp only [k24, k24c, c0', u, w2, c', zz, leaves, undef, pin, Int.reduceLT, C.lps, C.isLoop, bsliceD, contents, gate, evalI, St.ev, St.put, List.replicate, Nat.reduceSub, Nat.reduceAdd, binJ, lenOfD, ressD, resD, D.ok, D.cells, one, reduceCtorEq, Nat.reduceEqDiff, Int.reduceEq]
            · have u : ¬ upN neg 4 q r d := by simp [upN]; omega
              have c' : ¬ ((d - r : Nat) : Int) ≤ (r : Int) := by omega
              refine callT_of k24_ok k24_name (Z.T hmix ?_)
              simp only [k24, k24c, c0', u, w2, c', zz, leaves, undef, pin, Int.reduceLT, C.lps, C.isLoop, bsliceD, contents, gate, evalI, St.ev, St.put, List.replicate, Nat.reduceSub, Nat.reduceAdd, binJ, lenOfD, ressD, resD, D.ok, D.cells, one, reduceCtorEq, Nat.reduceEqDiff, Int.reduceEq]
          · by_cases e5 : mode = 5
            · subst e5
              by_cases c : d - r < r
              · have u : upN neg 5 q r d := by simp [upN]; omega
                have c' : ((d - r : Nat) : Int) < (r : Int) := by omega
                refine callT_of k24_ok k24_name (Z.T hmix ?_)
                simp only [k24, k24c, c0', u, w2, c', zz, leaves, undef, pin, Int.reduceLT, C.lps, C.isLoop, bsliceD, contents, gate, evalI, St.ev, St.put, List.replicate, Nat.reduceSub, Nat.reduceAdd, binJ, lenOfD, ressD, resD, D.ok, D.cells, one, reduceCtorEq, Nat.reduceEqDiff, Int.reduceEq]
              · have c' : ¬ ((d - r : Nat) : Int) < (r : Int) := by omega
                by_cases h : r = d - r
                · have h' : (r : Int) = ((d - r : Nat) : Int) := by omega
                  have h2 : Int.tmod (q : Int) 2 = ((q % 2 : Nat) : Int) := rfl
                  by_cases g : q % 2 = 1
                  · have u : upN neg 5 q r d := by simp [upN]; omega
                    have g' : ((q % 2 : Nat) : Int) = 1 := by omega
                    refine callT_of k24_ok k24_name (Z.T hmix ?_)
                    simp only [k24, k24c, c0', u, w2, c', ← h', h2, g', Int.lt_irrefl, zz, leaves, undef, pin, Int.reduceLT, C.lps, C.isLoop, bsliceD, contents, gate, evalI, St.ev, St.put, List.replicate, Nat.reduceSub, Nat.reduceAdd, binJ, lenOfD, ressD, resD, D.ok, D.cells, one, reduceCtorEq, Nat.reduceEqDiff, Int.reduceEq]
                  · have u : ¬ upN neg 5 q r d := by simp [upN]; omega
                    have g' : (((q % 2 : Nat) : Int) == 1) = false := by simp; omega
                    refine callT_of k24_ok k24_name (Z.T hmix ?_)
                    simp only [k24, k24c, c0', u, w2, c', ← h', h2, g', Int.lt_irrefl, zz, leaves, undef, pin, Int.reduceLT, C.lps, C.isLoop, bsliceD, contents, gate, evalI, St.ev, St.put, List.replicate, Nat.reduceSub, Nat.reduceAdd, binJ, lenOfD, ressD, resD, D.ok, D.cells, one, reduceCtorEq, Nat.reduceEqDiff, Int.reduceEq]
                · have h' : ¬ (r : Int) = ((d - r : Nat) : Int) := by omega
                  have u : ¬ upN neg 5 q r d := by simp [upN]; omega
                  refine callT_of k24_ok k24_name (Z.T hmix ?_)
                  simp only [k24, k24c, c0', u, w2, c', h', zz, leaves, undef, pin, Int.reduceLT, C.lps, C.isLoop, bsliceD, contents, gate, evalI, St.ev, St.put, List.replicate, Nat.reduceSub, Nat.reduceAdd, binJ, lenOfD, ressD, resD, D.ok, D.cells, one, reduceCtorEq, Nat.reduceEqDiff, Int.reduceEq]
            · have u : ¬ upN neg mode q r d := by simp [upN, e0, e1, e3, e4, e5]
              refine callT_of k24_ok k24_name (Z.T hmix ?_)
              simp only [k24, k24c, c0', u, e0, e1, e3, e4, e5, zz, leaves, undef, pin, Int.reduceLT, C.lps, C.isLoop, bsliceD, contents, gate, evalI, St.ev, St.put, List.replicate, Nat.reduceSub, Nat.reduceAdd, binJ, lenOfD, ressD, resD, D.ok, D.cells, one, reduceCtorEq, Nat.reduceEqDiff, Int.reduceEq]

/-- Is the floor quotient q with the rest r of the divisor d rounded up. -/
def upF (mode q r d : Int) : Prop :=
  r ≠ 0 ∧ (mode = 1 ∨ (mode = 2 ∧ q < 0) ∨ (mode = 3 ∧ 0 ≤ q) ∨ (mode = 4 ∧ (d - r < r ∨ (r = d - r ∧ 0 ≤ q))) ∨ (mode = 5 ∧ (d - r < r ∨ (r = d - r ∧ q % 2 ≠ 0))))
instance (mode q r d : Int) : Decidable (upF mode q r d) := by unfold upF; infer_instance
def rdF (mode q r d : Int) : Int := if upF mode q r d then q + 1 else q

theorem tmod2 (q : Int) : (Int.tmod q 2 = 0) = (q % 2 = 0) := by
  apply propext
  rcases Int.le_total 0 q with h | h
  · rw [Int.tmod_eq_emod_of_nonneg h]
  · have : Int.tmod q 2 = -(Int.tmod (-q) 2) := by rw [Int.neg_tmod]; omega
    rw [this, Int.tmod_eq_emod_of_nonneg (by omega)]
    omega

theorem rnd27 (q r d mode : Int) (hq : ok64 q ∧ q < 9223372036854775807) (hr : 0 ≤ r ∧ r < d) (hd : d < 9223372036854775808) (m : List Ent) :
    CallT Try.prog 27 [i64 q, i64 r, i64 d, i64 mode] m fun e m' => e = i64 (rdF mode q r d) ∧ m' = m := by
  simp only [i64]
  unfold ok64 at hq
  have w1 : wrapF .i64 (q + 1) = q + 1 := wrapI (by omega)
  have w2 : wrapF .i64 (d - r) = d - r := wrapI (by omega)
  have yes : ∀ h : upF mode q r d, rdF mode q r d = q + 1 := fun h => if_pos h
  have no : ∀ h : ¬ upF mode q r d, rdF mode q r d = q := fun h => if_neg h
  by_cases c0 : r = 0
  · subst c0
    have u := no (by simp [upF])
    refine callT_of k27_ok k27_name (Z.T hmix ?_)
    simp only [k27, k27c, u, zz, leaves, undef, pin, Int.reduceLT, C.lps, C.isLoop, bsliceD, contents, gate, evalI, St.ev, St.put, List.replicate, Nat.reduceSub, Nat.reduceAdd, binJ, lenOfD, ressD, resD, D.ok, D.cells, one, reduceCtorEq, Nat.reduceEqDiff, Int.reduceEq]
  · by_cases e1 : mode = 1
    · subst e1
      have u := yes (by simp [upF, c0])
      refine callT_of k27_ok k27_name (Z.T hmix ?_)
      simp only [k27, k27c, c0, u, w1, zz, leaves, undef, pin, Int.reduceLT, C.lps, C.isLoop, bsliceD, contents, gate, evalI, St.ev, St.put, List.replicate, Nat.reduceSub, Nat.reduceAdd, binJ, lenOfD, ressD, resD, D.ok, D.cells, one, reduceCtorEq, Nat.reduceEqDiff, Int.reduceEq]
    · by_cases e2 : mode = 2
      · subst e2
        by_cases c : q < 0
        · have u := yes (by simp [upF, c0, c])
          refine callT_of k27_ok k27_name (Z.T hmix ?_)
          simp only [k27, k27c, c0, u, w1, c, zz, leaves, undef, pin, Int.reduceLT, C.lps, C.isLoop, bsliceD, contents, gate, evalI, St.ev, St.put, List.replicate, Nat.reduceSub, Nat.reduceAdd, binJ, lenOfD, ressD, resD, D.ok, D.cells, one, reduceCtorEq, Nat.reduceEqDiff, Int.reduceEq]
        · have u := no (by simp [upF, c0, c])
          refine callT_of k27_ok k27_name (Z.T hmix ?_)
          simp only [k27, k27c, c0, u, c, zz, leaves, undef, pin, Int.reduceLT, C.lps, C.isLoop, bsliceD, contents, gate, evalI, St.ev, St.put, List.replicate, Nat.reduceSub, Nat.reduceAdd, binJ, lenOfD, ressD, resD, D.ok, D.cells, one, reduceCtorEq, Nat.reduceEqDiff, Int.reduceEq]
      · by_cases e3 : mode = 3
        · subst e3
          by_cases c : 0 ≤ q
          · have u := yes (by simp [upF, c0, c])
            refine callT_of k27_ok k27_name (Z.T hmix ?_)
            simp only [k27, k27c, c0, u, w1, c, zz, leaves, undef, pin, Int.reduceLT, C.lps, C.isLoop, bsliceD, contents, gate, evalI, St.ev, St.put, List.replicate, Nat.reduceSub, Nat.reduceAdd, binJ, lenOfD, ressD, resD, D.ok, D.cells, one, reduceCtorEq, Nat.reduceEqDiff, Int.reduceEq]
          · have u := no (by simp [upF, c0, c])
            refine callT_of k27_ok k27_name (Z.T hmix ?_)
            simp only [k27, k27c, c0, u, c, zz, leaves, undef, pin, Int.reduceLT, C.lps, C.isLoop, bsliceD, contents, gate, evalI, St.ev, St.put, List.replicate, Nat.reduceSub, Nat.reduceAdd, binJ, lenOfD, ressD, resD, D.ok, D.cells, one, reduceCtorEq, Nat.reduceEqDiff, Int.reduceEq]
        · by_cases e4 : mode = 4
          · subst e4
            by_cases h : r = d - r
            · have hl : ¬ d - r < r := by omega
              have w2' : wrapF .i64 (d - r) = r := by rw [w2]; exact h.symm
              by_cases c : 0 ≤ q
              · have u := yes (by simp [upF, c0, c, ← h])
                refine callT_of k27_ok k27_name (Z.T hmix ?_)
                simp only [k27, k27c, c0, u, w1, w2', c, Int.lt_irrefl, zz, leaves, undef, pin, Int.reduceLT, C.lps, C.isLoop, bsliceD, contents, gate, evalI, St.ev, St.put, List.replicate, Nat.reduceSub, Nat.reduceAdd, binJ, lenOfD, ressD, resD, D.ok, D.cells, one, reduceCtorEq, Nat.reduceEqDiff, Int.reduceEq]
              · have u := no (by simp [upF, c0, c, hl])
                refine callT_of k27_ok k27_name (Z.T hmix ?_)
                simp only [k27, k27c, c0, u, w2', c, Int.lt_irrefl, zz, leaves, undef, pin, Int.reduceLT, C.lps, C.isLoop, bsliceD, contents, gate, evalI, St.ev, St.put, List.replicate, Nat.reduceSub, Nat.reduceAdd, binJ, lenOfD, ressD, resD, D.ok, D.cells, one, reduceCtorEq, Nat.reduceEqDiff, Int.reduceEq]
            · by_cases g : d - r < r
              · have u := yes (by simp [upF, c0, g])
                refine callT_of k27_ok k27_name (Z.T hmix ?_)
                simp only [k27, k27c, c0, u, w1, w2, h, g, zz, leaves, undef, pin, Int.reduceLT, C.lps, C.isLoop, bsliceD, contents, gate, evalI, St.ev, St.put, List.replicate, Nat.reduceSub, Nat.reduceAdd, binJ, lenOfD, ressD, resD, D.ok, D.cells, one, reduceCtorEq, Nat.reduceEqDiff, Int.reduceEq]
              · have u := no (by simp [upF, c0, g, h])
                refine callT_of k27_ok k27_name (Z.T hmix ?_)
                simp only [k27, k27c, c0, u, w2, h, g, zz, leaves, undef, pin, Int.reduceLT, C.lps, C.isLoop, bsliceD, contents, gate, evalI, St.ev, St.put, List.replicate, Nat.reduceSub, Nat.reduceAdd, binJ, lenOfD, ressD, resD, D.ok, D.cells, one, reduceCtorEq, Nat.reduceEqDiff, Int.reduceEq]
          · by_cases e5 : mode = 5
            · subst e5
              by_cases h : r = d - r
              · have hl : ¬ d - r < r := by omega
                have w2' : wrapF .i64 (d - r) = r := by rw [w2]; exact h.symm
                by_cases c : q % 2 = 0
                · have u := no (by simp [upF, c0, c, hl])
                  refine callT_of k27_ok k27_name (Z.T hmix ?_)
                  simp only [k27, k27c, c0, u, w2', tmod2, c, Int.lt_irrefl, zz, leaves, undef, pin, Int.reduceLT, C.lps, C.isLoop, bsliceD, contents, gate, evalI, St.ev, St.put, List.replicate, Nat.reduceSub, Nat.reduceAdd, binJ, lenOfD, ressD, resD, D.ok, D.cells, one, reduceCtorEq, Nat.reduceEqDiff, Int.reduceEq]
                · have u := yes (by simp [upF, c0, ← h]; omega)
                  refine callT_of k27_ok k27_name (Z.T hmix ?_)
                  simp only [k27, k27c, c0, u, w1, w2', tmod2, c, Int.lt_irrefl, zz, leaves, undef, pin, Int.reduceLT, C.lps, C.isLoop, bsliceD, contents, gate, evalI, St.ev, St.put, List.replicate, Nat.reduceSub, Nat.reduceAdd, binJ, lenOfD, ressD, resD, D.ok, D.cells, one, reduceCtorEq, Nat.reduceEqDiff, Int.reduceEq]
              · by_cases g : d - r < r
                · have u := yes (by simp [upF, c0, g])
                  refine callT_of k27_ok k27_name (Z.T hmix ?_)
                  simp only [k27, k27c, c0, u, w1, w2, h, g, zz, leaves, undef, pin, Int.reduceLT, C.lps, C.isLoop, bsliceD, contents, gate, evalI, St.ev, St.put, List.replicate, Nat.reduceSub, Nat.reduceAdd, binJ, lenOfD, ressD, resD, D.ok, D.cells, one, reduceCtorEq, Nat.reduceEqDiff, Int.reduceEq]
                · have u := no (by simp [upF, c0, g, h])
                  refine callT_of k27_ok k27_name (Z.T hmix ?_)
                  simp only [k27, k27c, c0, u, w2, h, g, zz, leaves, undef, pin, Int.reduceLT, C.lps, C.isLoop, bsliceD, contents, gate, evalI, St.ev, St.put, List.replicate, Nat.reduceSub, Nat.reduceAdd, binJ, lenOfD, ressD, resD, D.ok, D.cells, one, reduceCtorEq, Nat.reduceEqDiff, Int.reduceEq]
            · have u := no (by simp [upF, e1, e2, e3, e4, e5])
              refine callT_of k27_ok k27_name (Z.T hmix ?_)
              simp only [k27, k27c, c0, u, e1, e2, e3, e4, e5, zz, leaves, undef, pin, Int.reduceLT, C.lps, C.isLoop, bsliceD, contents, gate, evalI, St.ev, St.put, List.replicate, Nat.reduceSub, Nat.reduceAdd, binJ, lenOfD, ressD, resD, D.ok, D.cells, one, reduceCtorEq, Nat.reduceEqDiff, Int.reduceEq]

/-- Both ways of rounding come to the same. -/
theorem round_same (N : Int) (d : Nat) (mode : Int) (hd : 0 < d) (neg : Bool) (hneg : N = 0 ∨ neg = decide (N < 0)) (hm : okMode mode) :
    sgn neg (rndN neg mode (N.natAbs / d) (N.natAbs % d) d) = rdF mode (N / d) (N % d) d := by
  have hdm := Nat.div_add_mod N.natAbs d
  have hml := Nat.mod_lt N.natAbs hd
  obtain ⟨a, ha⟩ : ∃ a, N.natAbs / d = a := ⟨_, rfl⟩
  obtain ⟨b, hb⟩ : ∃ a, N.natAbs % d = a := ⟨_, rfl⟩
  rw [ha, hb] at hdm
  rw [hb] at hml
  rw [ha, hb]
  by_cases hN : 0 ≤ N
  · have e1 : N = (N.natAbs : Int) := by omega
    have q1 : N / (d : Int) = (a : Int) := by rw [e1, ← ha]; rfl
    have q2 : N % (d : Int) = (b : Int) := by rw [e1, ← hb]; rfl
    rw [q1, q2]
    have hn : b = 0 ∨ neg = false := by
      rcases hneg with h | h
      · left; subst h; simp at hb; omega
      · right; rw [h]; simp; omega
    have key : upN neg mode a b d ↔ upF mode a b d := by
      unfold upN upF
      rcases hn with h | h
      · subst h; simp; omega
      · subst h; simp; omega
    have hs : ∀ k : Nat, (b = 0 → k = a) → sgn neg k = (k : Int) := fun k hk => by
      unfold sgn
      rcases hn with h | h
      · have h0 : a = 0 ∨ neg = false := by
          rcases hneg with h' | h'
          · left; subst h'; simp at ha; omega
          · right; rw [h']; simp; omega
        rcases h0 with h0 | h0
        · rw [hk h, h0]; simp
        · simp [h0]
      · simp [h]
    unfold rndN rdF
    by_cases c : upN neg mode a b d
    · rw [if_pos c, if_pos (key.1 c)]
      rw [hs _ (fun hb0 => absurd c (by rw [hb0]; exact up_zero hd))]
      omega
    · rw [if_neg c, if_neg (fun h => c (key.2 h))]
      exact hs _ fun _ => rfl
  · have e1 : N = -(N.natAbs : Int) := by omega
    have hn : neg = true := by
      rcases hneg with h | h
      · omega
      · rw [h]; simp; omega
    subst hn
    have hNd : N = -((d : Int) * a + b) := by rw [e1, ← hdm]; push_cast; rfl
    unfold sgn
    simp only [if_true]
    by_cases b0 : b = 0
    · have q1 : N / (d : Int) = -(a : Int) := by
        rw [hNd, b0]; simp only [Int.natCast_zero, Int.add_zero]
        rw [← Int.mul_neg, Int.mul_ediv_cancel_left _ (by omega)]
      have q2 : N % (d : Int) = 0 := by
        rw [hNd, b0]; simp only [Int.natCast_zero, Int.add_zero]
        rw [← Int.mul_neg, Int.mul_emod_right]
      rw [q1, q2]
      unfold rndN rdF
      rw [if_neg (by rw [b0]; exact up_zero hd), if_neg (by simp [upF])]
    · have hNd' : N = ((d : Int) - b) + d * (-(a : Int) - 1) := by rw [hNd, Int.mul_sub, Int.mul_neg]; omega
      have q1 : N / (d : Int) = -(a : Int) - 1 := by
        rw [hNd', Int.add_mul_ediv_left _ _ (by omega), Int.ediv_eq_zero_of_lt (by omega) (by omega)]; omega
      have q2 : N % (d : Int) = (d : Int) - b := by
        rw [hNd', Int.add_mul_emod_self_left, Int.emod_eq_of_lt (by omega) (by omega)]
      rw [q1, q2]
      have key : upN true mode a b d ↔ ¬ upF mode (-(a : Int) - 1) ((d : Int) - b) d := by
        unfold upN upF okMode at *
        simp only [ne_eq, not_and, not_or, reduceCtorEq, and_false, false_and, false_or, true_and]
        constructor
        · intro h h1
          omega
        · intro h
          have h := h (by omega)
          omega
      unfold rndN rdF
      by_cases c : upN true mode a b d
      · rw [if_pos c, if_neg (key.1 c)]; omega
      · rw [if_neg c, if_pos (Decidable.not_not.1 fun h => c (key.2 h))]; omega
end Go.Proofs.Ytmocaajdcjgohaa
