/-
  money: rounding.
-/
import Derived.Test.YtlfhdejlpnljbaaMon
set_option linter.unusedSimpArgs false
set_option linter.unusedVariables false
set_option maxHeartbeats 2000000
namespace Go.Proofs.Ytlfhdejlpnljbaa
open Go.Tm
set_option maxRecDepth 10000

theorem up_yes {neg : Bool} {mode : Int} {q r d : Nat} (h : upN neg mode q r d) : rndN neg mode q r d = q + 1 := if_pos h
theorem up_no {neg : Bool} {mode : Int} {q r d : Nat} (h : ¬ upN neg mode q r d) : rndN neg mode q r d = q := if_neg h
theorem up_zero {neg : Bool} {mode : Int} {q d : Nat} (hd : 0 < d) : ¬ upN neg mode q 0 d := by unfold upN; omega

theorem rnd49 (q r d : Nat) (neg : Bool) (mode : Int) (hq : q < 9223372036854775808) (hr : r < d) (hd : d < 9223372036854775808) (m : List Ent) :
    CallT Try.prog 49 [u64 q, u64 r, u64 d, .v (.bool neg), i64 mode] m fun e m' => e = u64 (rndN neg mode q r d) ∧ m' = m := by
  simp only [i64, u64]
  have w1 : wrapF .u64 ((q : Int) + 1) = ((q + 1 : Nat) : Int) := by rw [wrapU64 (by omega)]; omega
  have w2 : wrapF .u64 ((d : Int) - (r : Int)) = ((d - r : Nat) : Int) := by rw [wrapU64 (by omega)]; omega
  by_cases c0 : r = 0
  · subst c0
    refine callT_of k49_ok k49_name (Z.T hmix ?_)
    simp only [k49, k49c, up_no (up_zero hr), cast0, zz, leaves, undef, pin, Int.reduceLT, C.lps, C.isLoop, bsliceD, contents, gate, evalI, St.ev, St.put, List.replicate, Nat.reduceSub, Nat.reduceAdd, binJ, lenOfD, ressD, resD, D.ok, D.cells, one, reduceCtorEq, Nat.reduceEqDiff, Int.reduceEq]
  · have c0' : ¬ (r : Int) = 0 := by omega
    by_cases e0 : mode = 0
    · subst e0
      cases neg
      · have u : rndN false 0 q r d = q := up_no (by simp [upN])
        refine callT_of k49_ok k49_name (Z.T hmix ?_)
        simp only [k49, k49c, c0', u, zz, leaves, undef, pin, Int.reduceLT, C.lps, C.isLoop, bsliceD, contents, gate, evalI, St.ev, St.put, List.replicate, Nat.reduceSub, Nat.reduceAdd, binJ, lenOfD, ressD, resD, D.ok, D.cells, one, reduceCtorEq, Nat.reduceEqDiff, Int.reduceEq]
      · have u : rndN true 0 q r d = q + 1 := up_yes (by simp [upN]; omega)
        refine callT_of k49_ok k49_name (Z.T hmix ?_)
        simp only [k49, k49c, c0', u, w1, zz, leaves, undef, pin, Int.reduceLT, C.lps, C.isLoop, bsliceD, contents, gate, evalI, St.ev, St.put, List.replicate, Nat.reduceSub, Nat.reduceAdd, binJ, lenOfD, ressD, resD, D.ok, D.cells, one, reduceCtorEq, Nat.reduceEqDiff, Int.reduceEq]
    · by_cases e1 : mode = 1
      · subst e1
        cases neg
        · have u : rndN false 1 q r d = q + 1 := up_yes (by simp [upN]; omega)
          refine callT_of k49_ok k49_name (Z.T hmix ?_)
          simp only [k49, k49c, c0', u, w1, zz, leaves, undef, pin, Int.reduceLT, C.lps, C.isLoop, bsliceD, contents, gate, evalI, St.ev, St.put, List.replicate, Nat.reduceSub, Nat.reduceAdd, binJ, lenOfD, ressD, resD, D.ok, D.cells, one, reduceCtorEq, Nat.reduceEqDiff, Int.reduceEq]
        · have u : rndN true 1 q r d = q := up_no (by simp [upN])
          refine callT_of k49_ok k49_name (Z.T hmix ?_)
          simp only [k49, k49c, c0', u, zz, leaves, undef, pin, Int.reduceLT, C.lps, C.isLoop, bsliceD, contents, gate, evalI, St.ev, St.put, List.replicate, Nat.reduceSub, Nat.reduceAdd, binJ, lenOfD, ressD, resD, D.ok, D.cells, one, reduceCtorEq, Nat.reduceEqDiff, Int.reduceEq]
      · by_cases e3 : mode = 3
        · subst e3
          have u : rndN neg 3 q r d = q + 1 := up_yes (by simp [upN]; omega)
          refine callT_of k49_ok k49_name (Z.T hmix ?_)
          simp only [k49, k49c, c0', u, w1, zz, leaves, undef, pin, Int.reduceLT, C.lps, C.isLoop, bsliceD, contents, gate, evalI, St.ev, St.put, List.replicate, Nat.reduceSub, Nat.reduceAdd, binJ, lenOfD, ressD, resD, D.ok, D.cells, one, reduceCtorEq, Nat.reduceEqDiff, Int.reduceEq]
        · by_cases e4 : mode = 4
          · subst e4
            by_cases c : d - r ≤ r
            · have u : rndN neg 4 q r d = q + 1 := up_yes (by simp [upN]; omega)
              have c' : ((d - r : Nat) : Int) ≤ (r : Int) := by omega
              refine callT_of k49_ok k49_name (Z.T hmix ?_)
              simp only [k49, k49c, c0', u, w1, w2, c', zz, leaves, undef, pin, Int.reduceLT, C.lps, C.isLoop, bsliceD, contents, gate, evalI, St.ev, St.put, List.replicate, Nat.reduceSub, Nat.reduceAdd, binJ, lenOfD, ressD, resD, D.ok, D.cells, one, reduceCtorEq, Nat.reduceEqDiff, Int.reduceEq]
            · have u : rndN neg 4 q r d = q := up_no (by simp [upN]; omega)
              have c' : ¬ ((d - r : Nat) : Int) ≤ (r : Int) := by omega
              refine callT_of k49_ok k49_name (Z.T hmix ?_)
              simp only [k49, k49c, c0', u, w1, w2, c', zz, leaves, undef, pin, Int.reduceLT, C.lps, C.isLoop, bsliceD, contents, gate, evalI, St.ev, St.put, List.replicate, Nat.reduceSub, Nat.reduceAdd, binJ, lenOfD, ressD, resD, D.ok, D.cells, one, reduceCtorEq, Nat.reduceEqDiff, Int.reduceEq]
          · by_cases e5 : mode = 5
            · subst e5
              by_cases c : d - r < r
              · have u : rndN neg 5 q r d = q + 1 := up_yes (by simp [upN]; omega)
                have c' : ((d - r : Nat) : Int) < (r : Int) := by omega
                refine callT_of k49_ok k49_name (Z.T hmix ?_)
                simp only [k49, k49c, c0', u, w1, w2, c', zz, leaves, undef, pin, Int.reduceLT, C.lps, C.isLoop, bsliceD, contents, gate, evalI, St.ev, St.put, List.replicate, Nat.reduceSub, Nat.reduceAdd, binJ, lenOfD, ressD, resD, D.ok, D.cells, one, reduceCtorEq, Nat.reduceEqDiff, Int.reduceEq]
              · have c' : ¬ ((d - r : Nat) : Int) < (r : Int) := by omega
                by_cases h : r = d - r
                · have h' : (r : Int) = ((d - r : Nat) : Int) := by omega
                  have h2 : Int.tmod (q : Int) 2 = ((q % 2 : Nat) : Int) := rfl
                  by_cases g : q % 2 = 1
                  · have u : rndN neg 5 q r d = q + 1 := up_yes (by simp [upN]; omega)
                    have g' : ((q % 2 : Nat) : Int) = 1 := by omega
                    refine callT_of k49_ok k49_name (Z.T hmix ?_)
                    simp only [k49, k49c, c0', u, w1, w2, c', ← h', h2, g', Int.lt_irrefl, zz, leaves, undef, pin, Int.reduceLT, C.lps, C.isLoop, bsliceD, contents, gate, evalI, St.ev, St.put, List.replicate, Nat.reduceSub, Nat.reduceAdd, binJ, lenOfD, ressD, resD, D.ok, D.cells, one, reduceCtorEq, Nat.reduceEqDiff, Int.reduceEq]
                  · have u : rndN neg 5 q r d = q := up_no (by simp [upN]; omega)
                    have g' : ¬ ((q % 2 : Nat) : Int) = 1 := by omega
                    refine callT_of k49_ok k49_name (Z.T hmix ?_)
                    simp only [k49, k49c, c0', u, w1, w2, c', ← h', h2, g', Int.lt_irrefl, zz, leaves, undef, pin, Int.reduceLT, C.lps, C.isLoop, bsliceD, contents, gate, evalI, St.ev, St.put, List.replicate, Nat.reduceSub, Nat.reduceAdd, binJ, lenOfD, ressD, resD, D.ok, D.cells, one, reduceCtorEq, Nat.reduceEqDiff, Int.reduceEq]
                · have h' : ¬ (r : Int) = ((d - r : Nat) : Int) := by omega
                  have u : rndN neg 5 q r d = q := up_no (by simp [upN]; omega)
                  refine callT_of k49_ok k49_name (Z.T hmix ?_)
                  simp only [k49, k49c, c0', u, w1, w2, c', h', zz, leaves, undef, pin, Int.reduceLT, C.lps, C.isLoop, bsliceD, contents, gate, evalI, St.ev, St.put, List.replicate, Nat.reduceSub, Nat.reduceAdd, binJ, lenOfD, ressD, resD, D.ok, D.cells, one, reduceCtorEq, Nat.reduceEqDiff, Int.reduceEq]
            · have u : rndN neg mode q r d = q := up_no (by simp [upN, e0, e1, e3, e4, e5])
              refine callT_of k49_ok k49_name (Z.T hmix ?_)
              simp only [k49, k49c, c0', u, e0, e1, e3, e4, e5, zz, leaves, undef, pin, Int.reduceLT, C.lps, C.isLoop, bsliceD, contents, gate, evalI, St.ev, St.put, List.replicate, Nat.reduceSub, Nat.reduceAdd, binJ, lenOfD, ressD, resD, D.ok, D.cells, one, reduceCtorEq, Nat.reduceEqDiff, Int.reduceEq]

/-- With the sign. -/
def sgn (neg : Bool) (n : Nat) : Int := if neg = true then -(n : Int) else n

theorem rnd54 (q r d : Nat) (neg : Bool) (mode : Int) (hq : q < 9223372036854775807) (hr : r < d) (hd : d < 9223372036854775808) (m : List Ent) :
    CallT Try.prog 54 [i64 q, i64 r, i64 d, .v (.bool neg), i64 mode] m fun e m' => e = i64 (sgn neg (rndN neg mode q r d)) ∧ m' = m := by
  simp only [i64]
  have w1 : wrapF .i64 ((q : Int) + 1) = ((q + 1 : Nat) : Int) := by rw [wrapI (by omega)]; omega
  have w2 : wrapF .i64 ((d : Int) - (r : Int)) = ((d - r : Nat) : Int) := by rw [wrapI (by omega)]; omega
  have w3 : wrapF .i64 (-(q : Int)) = -(q : Int) := wrapI (by omega)
  have w4 : wrapF .i64 (-((q + 1 : Nat) : Int)) = -((q + 1 : Nat) : Int) := wrapI (by omega)
  by_cases e0 : mode = 0
  · subst e0
    cases neg
    · have u : rndN false 0 q r d = q := up_no (by simp [upN])
      refine callT_of k54_ok k54_name (Z.T hmix ?_)
      simp only [k54, k54c, u, sgn, zz, leaves, undef, pin, Int.reduceLT, C.lps, C.isLoop, bsliceD, contents, gate, evalI, St.ev, St.put, List.replicate, Nat.reduceSub, Nat.reduceAdd, binJ, lenOfD, ressD, resD, D.ok, D.cells, one, reduceCtorEq, Nat.reduceEqDiff, Int.reduceEq]
    · by_cases c : 0 < r
      · have c' : (0 : Int) < (r : Int) := by omega
        have u : rndN true 0 q r d = q + 1 := up_yes (by simp [upN]; omega)
        refine callT_of k54_ok k54_name (Z.T hmix ?_)
        simp only [k54, k54c, c', u, w1, w4, sgn, zz, leaves, undef, pin, Int.reduceLT, C.lps, C.isLoop, bsliceD, contents, gate, evalI, St.ev, St.put, List.replicate, Nat.reduceSub, Nat.reduceAdd, binJ, lenOfD, ressD, resD, D.ok, D.cells, one, reduceCtorEq, Nat.reduceEqDiff, Int.reduceEq]
      · have c' : ¬ (0 : Int) < (r : Int) := by omega
        have u : rndN true 0 q r d = q := up_no (by simp [upN]; omega)
        refine callT_of k54_ok k54_name (Z.T hmix ?_)
        simp only [k54, k54c, c', u, w3, sgn, zz, leaves, undef, pin, Int.reduceLT, C.lps, C.isLoop, bsliceD, contents, gate, evalI, St.ev, St.put, List.replicate, Nat.reduceSub, Nat.reduceAdd, binJ, lenOfD, ressD, resD, D.ok, D.cells, one, reduceCtorEq, Nat.reduceEqDiff, Int.reduceEq]
  · by_cases e1 : mode = 1
    · subst e1
      cases neg
      · by_cases c : 0 < r
        · have c' : (0 : Int) < (r : Int) := by omega
          have u : rndN false 1 q r d = q + 1 := up_yes (by simp [upN]; omega)
          refine callT_of k54_ok k54_name (Z.T hmix ?_)
          simp only [k54, k54c, c', u, w1, w4, sgn, zz, leaves, undef, pin, Int.reduceLT, C.lps, C.isLoop, bsliceD, contents, gate, evalI, St.ev, St.put, List.replicate, Nat.reduceSub, Nat.reduceAdd, binJ, lenOfD, ressD, resD, D.ok, D.cells, one, reduceCtorEq, Nat.reduceEqDiff, Int.reduceEq]
        · have c' : ¬ (0 : Int) < (r : Int) := by omega
          have u : rndN false 1 q r d = q := up_no (by simp [upN]; omega)
          refine callT_of k54_ok k54_name (Z.T hmix ?_)
          simp only [k54, k54c, c', u, w3, sgn, zz, leaves, undef, pin, Int.reduceLT, C.lps, C.isLoop, bsliceD, contents, gate, evalI, St.ev, St.put, List.replicate, Nat.reduceSub, Nat.reduceAdd, binJ, lenOfD, ressD, resD, D.ok, D.cells, one, reduceCtorEq, Nat.reduceEqDiff, Int.reduceEq]
      · have u : rndN true 1 q r d = q := up_no (by simp [upN])
        refine callT_of k54_ok k54_name (Z.T hmix ?_)
        simp only [k54, k54c, u, w3, sgn, zz, leaves, undef, pin, Int.reduceLT, C.lps, C.isLoop, bsliceD, contents, gate, evalI, St.ev, St.put, List.replicate, Nat.reduceSub, Nat.reduceAdd, binJ, lenOfD, ressD, resD, D.ok, D.cells, one, reduceCtorEq, Nat.reduceEqDiff, Int.reduceEq]
    · by_cases e3 : mode = 3
      · subst e3
        by_cases c : 0 < r
        · have c' : (0 : Int) < (r : Int) := by omega
          have u : rndN neg 3 q r d = q + 1 := up_yes (by simp [upN]; omega)
          cases neg
          · refine callT_of k54_ok k54_name (Z.T hmix ?_)
            simp only [k54, k54c, c', u, w1, w4, sgn, zz, leaves, undef, pin, Int.reduceLT, C.lps, C.isLoop, bsliceD, contents, gate, evalI, St.ev, St.put, List.replicate, Nat.reduceSub, Nat.reduceAdd, binJ, lenOfD, ressD, resD, D.ok, D.cells, one, reduceCtorEq, Nat.reduceEqDiff, Int.reduceEq]
          · refine callT_of k54_ok k54_name (Z.T hmix ?_)
            simp only [k54, k54c, c', u, w1, w4, sgn, zz, leaves, undef, pin, Int.reduceLT, C.lps, C.isLoop, bsliceD, contents, gate, evalI, St.ev, St.put, List.replicate, Nat.reduceSub, Nat.reduceAdd, binJ, lenOfD, ressD, resD, D.ok, D.cells, one, reduceCtorEq, Nat.reduceEqDiff, Int.reduceEq]
        · have c' : ¬ (0 : Int) < (r : Int) := by omega
          have u : rndN neg 3 q r d = q := up_no (by simp [upN]; omega)
          cases neg
          · refine callT_of k54_ok k54_name (Z.T hmix ?_)
            simp only [k54, k54c, c', u, w3, sgn, zz, leaves, undef, pin, Int.reduceLT, C.lps, C.isLoop, bsliceD, contents, gate, evalI, St.ev, St.put, List.replicate, Nat.reduceSub, Nat.reduceAdd, binJ, lenOfD, ressD, resD, D.ok, D.cells, one, reduceCtorEq, Nat.reduceEqDiff, Int.reduceEq]
          · refine callT_of k54_ok k54_name (Z.T hmix ?_)
            simp only [k54, k54c, c', u, w3, sgn, zz, leaves, undef, pin, Int.reduceLT, C.lps, C.isLoop, bsliceD, contents, gate, evalI, St.ev, St.put, List.replicate, Nat.reduceSub, Nat.reduceAdd, binJ, lenOfD, ressD, resD, D.ok, D.cells, one, reduceCtorEq, Nat.reduceEqDiff, Int.reduceEq]
      · by_cases e4 : mode = 4
        · subst e4
          by_cases c : d - r ≤ r
          · have u : rndN neg 4 q r d = q + 1 := up_yes (by simp [upN]; omega)
            have c' : ((d - r : Nat) : Int) ≤ (r : Int) := by omega
            cases neg
            · refine callT_of k54_ok k54_name (Z.T hmix ?_)
              simp only [k54, k54c, u, w1, w2, c', w4, sgn, zz, leaves, undef, pin, Int.reduceLT, C.lps, C.isLoop, bsliceD, contents, gate, evalI, St.ev, St.put, List.replicate, Nat.reduceSub, Nat.reduceAdd, binJ, lenOfD, ressD, resD, D.ok, D.cells, one, reduceCtorEq, Nat.reduceEqDiff, Int.reduceEq]
            · refine callT_of k54_ok k54_name (Z.T hmix ?_)
              simp only [k54, k54c, u, w1, w2, c', w4, sgn, zz, leaves, undef, pin, Int.reduceLT, C.lps, C.isLoop, bsliceD, contents, gate, evalI, St.ev, St.put, List.replicate, Nat.reduceSub, Nat.reduceAdd, binJ, lenOfD, ressD, resD, D.ok, D.cells, one, reduceCtorEq, Nat.reduceEqDiff, Int.reduceEq]
          · have u : rndN neg 4 q r d = q := up_no (by simp [upN]; omega)
            have c' : ¬ ((d - r : Nat) : Int) ≤ (r : Int) := by omega
            cases neg
            · refine callT_of k54_ok k54_name (Z.T hmix ?_)
              simp only [k54, k54c, u, w1, w2, c', w3, sgn, zz, leaves, undef, pin, Int.reduceLT, C.lps, C.isLoop, bsliceD, contents, gate, evalI, St.ev, St.put, List.replicate, Nat.reduceSub, Nat.reduceAdd, binJ, lenOfD, ressD, resD, D.ok, D.cells, one, reduceCtorEq, Nat.reduceEqDiff, Int.reduceEq]
            · refine callT_of k54_ok k54_name (Z.T hmix ?_)
              simp only [k54, k54c, u, w1, w2, c', w3, sgn, zz, leaves, undef, pin, Int.reduceLT, C.lps, C.isLoop, bsliceD, contents, gate, evalI, St.ev, St.put, List.replicate, Nat.reduceSub, Nat.reduceAdd, binJ, lenOfD, ressD, resD, D.ok, D.cells, one, reduceCtorEq, Nat.reduceEqDiff, Int.reduceEq]
        · by_cases e5 : mode = 5
          · subst e5
            by_cases c : d - r < r
            · have u : rndN neg 5 q r d = q + 1 := up_yes (by simp [upN]; omega)
              have c' : ((d - r : Nat) : Int) < (r : Int) := by omega
              cases neg
              · refine callT_of k54_ok k54_name (Z.T hmix ?_)
                simp only [k54, k54c, u, w1, w2, c', w4, sgn, zz, leaves, undef, pin, Int.reduceLT, C.lps, C.isLoop, bsliceD, contents, gate, evalI, St.ev, St.put, List.replicate, Nat.reduceSub, Nat.reduceAdd, binJ, lenOfD, ressD, resD, D.ok, D.cells, one, reduceCtorEq, Nat.reduceEqDiff, Int.reduceEq]
              · refine callT_of k54_ok k54_name (Z.T hmix ?_)
                simp only [k54, k54c, u, w1, w2, c', w4, sgn, zz, leaves, undef, pin, Int.reduceLT, C.lps, C.isLoop, bsliceD, contents, gate, evalI, St.ev, St.put, List.replicate, Nat.reduceSub, Nat.reduceAdd, binJ, lenOfD, ressD, resD, D.ok, D.cells, one, reduceCtorEq, Nat.reduceEqDiff, Int.reduceEq]
            · have c' : ¬ ((d - r : Nat) : Int) < (r : Int) := by omega
              by_cases h : r = d - r
              · have h' : (r : Int) = ((d - r : Nat) : Int) := by omega
                have h2 : Int.tmod (q : Int) 2 = ((q % 2 : Nat) : Int) := rfl
                by_cases g : q % 2 = 1
                · have u : rndN neg 5 q r d = q + 1 := up_yes (by simp [upN]; omega)
                  have g' : ((q % 2 : Nat) : Int) = 1 := by omega
                  cases neg
                  · refine callT_of k54_ok k54_name (Z.T hmix ?_)
                    simp only [k54, k54c, u, w1, w2, c', ← h', h2, g', Int.lt_irrefl, w4, sgn, zz, leaves, undef, pin, Int.reduceLT, C.lps, C.isLoop, bsliceD, contents, gate, evalI, St.ev, St.put, List.replicate, Nat.reduceSub, Nat.reduceAdd, binJ, lenOfD, ressD, resD, D.ok, D.cells, one, reduceCtorEq, Nat.reduceEqDiff, Int.reduceEq]
                  · refine callT_of k54_ok k54_name (Z.T hmix ?_)
                    simp only [k54, k54c, u, w1, w2, c', ← h', h2, g', Int.lt_irrefl, w4, sgn, zz, leaves, undef, pin, Int.reduceLT, C.lps, C.isLoop, bsliceD, contents, gate, evalI, St.ev, St.put, List.replicate, Nat.reduceSub, Nat.reduceAdd, binJ, lenOfD, ressD, resD, D.ok, D.cells, one, reduceCtorEq, Nat.reduceEqDiff, Int.reduceEq]
                · have u : rndN neg 5 q r d = q := up_no (by simp [upN]; omega)
                  have g' : ¬ ((q % 2 : Nat) : Int) = 1 := by omega
                  cases neg
                  · refine callT_of k54_ok k54_name (Z.T hmix ?_)
                    simp only [k54, k54c, u, w1, w2, c', ← h', h2, g', Int.lt_irrefl, w3, sgn, zz, leaves, undef, pin, Int.reduceLT, C.lps, C.isLoop, bsliceD, contents, gate, evalI, St.ev, St.put, List.replicate, Nat.reduceSub, Nat.reduceAdd, binJ, lenOfD, ressD, resD, D.ok, D.cells, one, reduceCtorEq, Nat.reduceEqDiff, Int.reduceEq]
                  · refine callT_of k54_ok k54_name (Z.T hmix ?_)
                    simp only [k54, k54c, u, w1, w2, c', ← h', h2, g', Int.lt_irrefl, w3, sgn, zz, leaves, undef, pin, Int.reduceLT, C.lps, C.isLoop, bsliceD, contents, gate, evalI, St.ev, St.put, List.replicate, Nat.reduceSub, Nat.reduceAdd, binJ, lenOfD, ressD, resD, D.ok, D.cells, one, reduceCtorEq, Nat.reduceEqDiff, Int.reduceEq]
              · have h' : ¬ (r : Int) = ((d - r : Nat) : Int) := by omega
                have u : rndN neg 5 q r d = q := up_no (by simp [upN]; omega)
                cases neg
                · refine callT_of k54_ok k54_name (Z.T hmix ?_)
                  simp only [k54, k54c, u, w1, w2, c', h', w3, sgn, zz, leaves, undef, pin, Int.reduceLT, C.lps, C.isLoop, bsliceD, contents, gate, evalI, St.ev, St.put, List.replicate, Nat.reduceSub, Nat.reduceAdd, binJ, lenOfD, ressD, resD, D.ok, D.cells, one, reduceCtorEq, Nat.reduceEqDiff, Int.reduceEq]
                · refine callT_of k54_ok k54_name (Z.T hmix ?_)
                  simp only [k54, k54c, u, w1, w2, c', h', w3, sgn, zz, leaves, undef, pin, Int.reduceLT, C.lps, C.isLoop, bsliceD, contents, gate, evalI, St.ev, St.put, List.replicate, Nat.reduceSub, Nat.reduceAdd, binJ, lenOfD, ressD, resD, D.ok, D.cells, one, reduceCtorEq, Nat.reduceEqDiff, Int.reduceEq]
          · have u : rndN neg mode q r d = q := up_no (by simp [upN, e0, e1, e3, e4, e5])
            cases neg
            · refine callT_of k54_ok k54_name (Z.T hmix ?_)
              simp only [k54, k54c, u, e0, e1, e3, e4, e5, w3, sgn, zz, leaves, undef, pin, Int.reduceLT, C.lps, C.isLoop, bsliceD, contents, gate, evalI, St.ev, St.put, List.replicate, Nat.reduceSub, Nat.reduceAdd, binJ, lenOfD, ressD, resD, D.ok, D.cells, one, reduceCtorEq, Nat.reduceEqDiff, Int.reduceEq]
            · refine callT_of k54_ok k54_name (Z.T hmix ?_)
              simp only [k54, k54c, u, e0, e1, e3, e4, e5, w3, sgn, zz, leaves, undef, pin, Int.reduceLT, C.lps, C.isLoop, bsliceD, contents, gate, evalI, St.ev, St.put, List.replicate, Nat.reduceSub, Nat.reduceAdd, binJ, lenOfD, ressD, resD, D.ok, D.cells, one, reduceCtorEq, Nat.reduceEqDiff, Int.reduceEq]
end Go.Proofs.Ytlfhdejlpnljbaa
