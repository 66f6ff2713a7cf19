/-
  money: the small functions of MulDiv, and what they come to.
-/
import Derived.Test.YtlfhdejlpnljbaaBits3
set_option linter.unusedSimpArgs false
set_option linter.unusedVariables false
set_option maxHeartbeats 2000000
namespace Go.Proofs.Ytlfhdejlpnljbaa
open Go.Tm
set_option maxRecDepth 10000

theorem ok64.wrap {n : Int} (h : ok64 n) : wrapF .i64 n = n := wrapI h

theorem mode44 (n : Int) (m : List Ent) : CallT Try.prog 44 [i64 n] m fun d m' => d = .v (.bool (decide (0 ≤ n ∧ n ≤ 5))) ∧ m' = m := by
  simp only [i64]
  by_cases h : 0 ≤ n
  · by_cases h2 : n ≤ 5
    · refine callT_of k44_ok k44_name (Z.T hmix ?_)
      simp only [k44, k44c, h, h2, zz, leaves, undef, pin, Int.reduceLT, C.lps, C.isLoop, bsliceD, contents, gate, evalI, St.ev, St.put, List.replicate, Nat.reduceSub, Nat.reduceAdd, binJ, lenOfD, ressD, resD, D.ok, D.cells, one, reduceCtorEq, Nat.reduceEqDiff, Int.reduceEq]
    · refine callT_of k44_ok k44_name (Z.T hmix ?_)
      simp only [k44, k44c, h, h2, and_false, zz, leaves, undef, pin, Int.reduceLT, C.lps, C.isLoop, bsliceD, contents, gate, evalI, St.ev, St.put, List.replicate, Nat.reduceSub, Nat.reduceAdd, binJ, lenOfD, ressD, resD, D.ok, D.cells, one, reduceCtorEq, Nat.reduceEqDiff, Int.reduceEq]
  · refine callT_of k44_ok k44_name (Z.T hmix ?_)
    simp only [k44, k44c, h, false_and, zz, leaves, undef, pin, Int.reduceLT, C.lps, C.isLoop, bsliceD, contents, gate, evalI, St.ev, St.put, List.replicate, Nat.reduceSub, Nat.reduceAdd, binJ, lenOfD, ressD, resD, D.ok, D.cells, one, reduceCtorEq, Nat.reduceEqDiff, Int.reduceEq]

theorem mode51 (n : Int) (m : List Ent) : CallT Try.prog 51 [i64 n] m fun d m' => d = .v (.bool (decide (0 ≤ n ∧ n ≤ 5))) ∧ m' = m := by
  simp only [i64]
  by_cases h : 0 ≤ n
  · by_cases h2 : n ≤ 5
    · refine callT_of k51_ok k51_name (Z.T hmix ?_)
      simp only [k51, k51c, h, h2, zz, leaves, undef, pin, Int.reduceLT, C.lps, C.isLoop, bsliceD, contents, gate, evalI, St.ev, St.put, List.replicate, Nat.reduceSub, Nat.reduceAdd, binJ, lenOfD, ressD, resD, D.ok, D.cells, one, reduceCtorEq, Nat.reduceEqDiff, Int.reduceEq]
    · refine callT_of k51_ok k51_name (Z.T hmix ?_)
      simp only [k51, k51c, h, h2, and_false, zz, leaves, undef, pin, Int.reduceLT, C.lps, C.isLoop, bsliceD, contents, gate, evalI, St.ev, St.put, List.replicate, Nat.reduceSub, Nat.reduceAdd, binJ, lenOfD, ressD, resD, D.ok, D.cells, one, reduceCtorEq, Nat.reduceEqDiff, Int.reduceEq]
  · refine callT_of k51_ok k51_name (Z.T hmix ?_)
    simp only [k51, k51c, h, false_and, zz, leaves, undef, pin, Int.reduceLT, C.lps, C.isLoop, bsliceD, contents, gate, evalI, St.ev, St.put, List.replicate, Nat.reduceSub, Nat.reduceAdd, binJ, lenOfD, ressD, resD, D.ok, D.cells, one, reduceCtorEq, Nat.reduceEqDiff, Int.reduceEq]

theorem bey45 (n k : Int) (hk : ok64 (-k)) (m : List Ent) : CallT Try.prog 45 [i64 n, i64 k] m fun d m' => d = .v (.bool (decide (k < n ∨ n < -k))) ∧ m' = m := by
  simp only [i64]
  have w := hk.wrap
  by_cases h : k < n
  · refine callT_of k45_ok k45_name (Z.T hmix ?_)
    simp only [k45, k45c, h, true_or, zz, leaves, undef, pin, Int.reduceLT, C.lps, C.isLoop, bsliceD, contents, gate, evalI, St.ev, St.put, List.replicate, Nat.reduceSub, Nat.reduceAdd, binJ, lenOfD, ressD, resD, D.ok, D.cells, one, reduceCtorEq, Nat.reduceEqDiff, Int.reduceEq]
  · by_cases h2 : n < -k
    · refine callT_of k45_ok k45_name (Z.T hmix ?_)
      simp only [k45, k45c, h, h2, w, or_true, zz, leaves, undef, pin, Int.reduceLT, C.lps, C.isLoop, bsliceD, contents, gate, evalI, St.ev, St.put, List.replicate, Nat.reduceSub, Nat.reduceAdd, binJ, lenOfD, ressD, resD, D.ok, D.cells, one, reduceCtorEq, Nat.reduceEqDiff, Int.reduceEq]
    · refine callT_of k45_ok k45_name (Z.T hmix ?_)
      simp only [k45, k45c, h, h2, w, or_self, zz, leaves, undef, pin, Int.reduceLT, C.lps, C.isLoop, bsliceD, contents, gate, evalI, St.ev, St.put, List.replicate, Nat.reduceSub, Nat.reduceAdd, binJ, lenOfD, ressD, resD, D.ok, D.cells, one, reduceCtorEq, Nat.reduceEqDiff, Int.reduceEq]

theorem bey52 (n k : Int) (hk : ok64 (-k)) (m : List Ent) : CallT Try.prog 52 [i64 n, i64 k] m fun d m' => d = .v (.bool (decide (k < n ∨ n < -k))) ∧ m' = m := by
  simp only [i64]
  have w := hk.wrap
  by_cases h : k < n
  · refine callT_of k52_ok k52_name (Z.T hmix ?_)
    simp only [k52, k52c, h, true_or, zz, leaves, undef, pin, Int.reduceLT, C.lps, C.isLoop, bsliceD, contents, gate, evalI, St.ev, St.put, List.replicate, Nat.reduceSub, Nat.reduceAdd, binJ, lenOfD, ressD, resD, D.ok, D.cells, one, reduceCtorEq, Nat.reduceEqDiff, Int.reduceEq]
  · by_cases h2 : n < -k
    · refine callT_of k52_ok k52_name (Z.T hmix ?_)
      simp only [k52, k52c, h, h2, w, or_true, zz, leaves, undef, pin, Int.reduceLT, C.lps, C.isLoop, bsliceD, contents, gate, evalI, St.ev, St.put, List.replicate, Nat.reduceSub, Nat.reduceAdd, binJ, lenOfD, ressD, resD, D.ok, D.cells, one, reduceCtorEq, Nat.reduceEqDiff, Int.reduceEq]
    · refine callT_of k52_ok k52_name (Z.T hmix ?_)
      simp only [k52, k52c, h, h2, w, or_self, zz, leaves, undef, pin, Int.reduceLT, C.lps, C.isLoop, bsliceD, contents, gate, evalI, St.ev, St.put, List.replicate, Nat.reduceSub, Nat.reduceAdd, binJ, lenOfD, ressD, resD, D.ok, D.cells, one, reduceCtorEq, Nat.reduceEqDiff, Int.reduceEq]

theorem mag47 (n : Int) (hn : ok64 n) (m : List Ent) : CallT Try.prog 47 [i64 n] m fun d m' => d = u64 n.natAbs ∧ m' = m := by
  simp only [i64]
  by_cases h : n < 0
  · have w : wrapF .u64 (-(wrapF .u64 n)) = ((n.natAbs : Nat) : Int) := by simp only [wrapF]; have := hn.1; have := hn.2; omega
    refine callT_of k47_ok k47_name (Z.T hmix ?_)
    simp only [k47, k47c, h, w, zz, leaves, undef, pin, Int.reduceLT, C.lps, C.isLoop, bsliceD, contents, gate, evalI, St.ev, St.put, List.replicate, Nat.reduceSub, Nat.reduceAdd, binJ, lenOfD, ressD, resD, D.ok, D.cells, one, reduceCtorEq, Nat.reduceEqDiff, Int.reduceEq]
    rfl
  · have w : wrapF .u64 n = ((n.natAbs : Nat) : Int) := by simp only [wrapF]; have := hn.1; have := hn.2; omega
    refine callT_of k47_ok k47_name (Z.T hmix ?_)
    simp only [k47, k47c, h, w, zz, leaves, undef, pin, Int.reduceLT, C.lps, C.isLoop, bsliceD, contents, gate, evalI, St.ev, St.put, List.replicate, Nat.reduceSub, Nat.reduceAdd, binJ, lenOfD, ressD, resD, D.ok, D.cells, one, reduceCtorEq, Nat.reduceEqDiff, Int.reduceEq]
    rfl

theorem abs53 (n : Int) (hn : ok64 n) (h1 : ok64 (-n)) (m : List Ent) : CallT Try.prog 53 [i64 n] m fun d m' => d = i64 n.natAbs ∧ m' = m := by
  simp only [i64]
  by_cases h : n < 0
  · have w : wrapF .i64 (-n) = ((n.natAbs : Nat) : Int) := by rw [h1.wrap]; omega
    refine callT_of k53_ok k53_name (Z.T hmix ?_)
    simp only [k53, k53c, h, w, zz, leaves, undef, pin, Int.reduceLT, C.lps, C.isLoop, bsliceD, contents, gate, evalI, St.ev, St.put, List.replicate, Nat.reduceSub, Nat.reduceAdd, binJ, lenOfD, ressD, resD, D.ok, D.cells, one, reduceCtorEq, Nat.reduceEqDiff, Int.reduceEq]
  · have w : n = ((n.natAbs : Nat) : Int) := by omega
    refine callT_of k53_ok k53_name (Z.T hmix ?_)
    simp only [k53, k53c, h, zz, leaves, undef, pin, Int.reduceLT, C.lps, C.isLoop, bsliceD, contents, gate, evalI, St.ev, St.put, List.replicate, Nat.reduceSub, Nat.reduceAdd, binJ, lenOfD, ressD, resD, D.ok, D.cells, one, reduceCtorEq, Nat.reduceEqDiff, Int.reduceEq]
    exact congrArg _ (congrArg _ w)

theorem sgn50 (q : Nat) (b : Bool) (hq : q < 9223372036854775808) (m : List Ent) : CallT Try.prog 50 [u64 q, .v (.bool b)] m fun d m' => d = i64 (if b = true then -(q : Int) else q) ∧ m' = m := by
  simp only [i64, u64]
  have w := wrapN q hq
  have w' : wrapF .i64 (-(q : Int)) = -(q : Int) := wrapI (by omega)
  cases b
  · refine callT_of k50_ok k50_name (Z.T hmix ?_)
    simp only [k50, k50c, w, w', zz, leaves, undef, pin, Int.reduceLT, C.lps, C.isLoop, bsliceD, contents, gate, evalI, St.ev, St.put, List.replicate, Nat.reduceSub, Nat.reduceAdd, binJ, lenOfD, ressD, resD, D.ok, D.cells, one, reduceCtorEq, Nat.reduceEqDiff, Int.reduceEq]
  · refine callT_of k50_ok k50_name (Z.T hmix ?_)
    simp only [k50, k50c, w, w', zz, leaves, undef, pin, Int.reduceLT, C.lps, C.isLoop, bsliceD, contents, gate, evalI, St.ev, St.put, List.replicate, Nat.reduceSub, Nat.reduceAdd, binJ, lenOfD, ressD, resD, D.ok, D.cells, one, reduceCtorEq, Nat.reduceEqDiff, Int.reduceEq]

/-- Is the quotient q with the rest r of the divisor d rounded up, away from zero. -/
def upN (neg : Bool) (mode : Int) (q r d : Nat) : Prop :=
  (mode = 0 ∧ neg = true ∧ 0 < r) ∨ (mode = 1 ∧ neg = false ∧ 0 < r) ∨ (mode = 3 ∧ 0 < r) ∨ (mode = 4 ∧ d ≤ r + r) ∨ (mode = 5 ∧ (d < r + r ∨ (d = r + r ∧ q % 2 = 1)))
instance (neg : Bool) (mode : Int) (q r d : Nat) : Decidable (upN neg mode q r d) := by unfold upN; infer_instance
def rndN (neg : Bool) (mode : Int) (q r d : Nat) : Nat := if upN neg mode q r d then q + 1 else q
theorem rndN_le (neg : Bool) (mode : Int) (q r d : Nat) : q ≤ rndN neg mode q r d ∧ rndN neg mode q r d ≤ q + 1 := by
  unfold rndN; split <;> omega

end Go.Proofs.Ytlfhdejlpnljbaa
