/-
  rate.Mul, Apply, Prorate, Compound, and the reference's.
-/
import Derived.Test.YtmocaajdcjgohaaRat3
import Derived.Test.YtmocaajdcjgohaaAwk03
set_option linter.unusedSimpArgs false
set_option linter.unusedVariables false
set_option maxHeartbeats 2000000
namespace Go.Proofs.Ytmocaajdcjgohaa
open Go.Tm
set_option maxRecDepth 10000

theorem app18 (c r mode : Int) (hc : ok64 c) (hr : ok64 r) (m : List Ent) : CallT Try.prog 18 [i64 c, i64 r, i64 mode] m fun d m' => d = mdD (mdS c r 1000000 mode) ∧ m' = m := by
  simp only [i64]
  refine callT_of k18_ok k18_name (Z.T hmix ?_)
  simp only [k18, k18c, zz, leaves, undef, pin, Int.reduceLT, C.lps, C.isLoop, bsliceD, contents, gate, evalI, St.ev, St.put, List.replicate, Nat.reduceSub, Nat.reduceAdd, binJ, lenOfD, ressD, resD, D.ok, D.cells, one, reduceCtorEq, Nat.reduceEqDiff, Int.reduceEq]
  refine callX_eq (md40 c r 1000000 mode hc hr (by unfold ok64; omega) _) ?_
  simp only [zz, leaves, undef, pin, Int.reduceLT, C.lps, C.isLoop, bsliceD, contents, gate, evalI, St.ev, St.put, List.replicate, Nat.reduceSub, Nat.reduceAdd, binJ, lenOfD, ressD, resD, D.ok, D.cells, one, reduceCtorEq, Nat.reduceEqDiff, Int.reduceEq, mdD, i64]

theorem app19 (c r mode : Int) (hc : ok64 c) (hr : ok64 r) (m : List Ent) : CallT Try.prog 19 [i64 c, i64 r, i64 mode] m fun d m' => d = mdD (mdS c r 1000000 mode) ∧ m' = m := by
  simp only [i64]
  refine callT_of k19_ok k19_name (Z.T hmix ?_)
  simp only [k19, k19c, zz, leaves, undef, pin, Int.reduceLT, C.lps, C.isLoop, bsliceD, contents, gate, evalI, St.ev, St.put, List.replicate, Nat.reduceSub, Nat.reduceAdd, binJ, lenOfD, ressD, resD, D.ok, D.cells, one, reduceCtorEq, Nat.reduceEqDiff, Int.reduceEq]
  refine callX_eq (md41 c r 1000000 mode hc hr (by unfold ok64; omega) _) ?_
  simp only [zz, leaves, undef, pin, Int.reduceLT, C.lps, C.isLoop, bsliceD, contents, gate, evalI, St.ev, St.put, List.replicate, Nat.reduceSub, Nat.reduceAdd, binJ, lenOfD, ressD, resD, D.ok, D.cells, one, reduceCtorEq, Nat.reduceEqDiff, Int.reduceEq, mdD, i64]

/-- n over a million, rounded. -/
def perM (n mode : Int) : Nat := rndN (decide (n < 0)) mode (n.natAbs / 1000000) (n.natAbs % 1000000) 1000000

theorem div30 (n mode : Int) (hm : okMode mode) (hn : -1000000000000000000 ≤ n ∧ n ≤ 1000000000000000000) (m : List Ent) :
    CallT Try.prog 30 [i64 n, i64 1000000, i64 mode] m fun d m' => d = .tup [i64 (sgn (decide (n < 0)) (perM n mode)), i64 0] ∧ m' = m := by
  have k1 : ok64 (-4611686018427387904) := by unfold ok64; omega
  have b1 : ¬ bey n 4611686018427387904 := by unfold bey; omega
  have b2 : ¬ bey 1000000 4611686018427387904 := by unfold bey; omega
  have k2 : ok64 n := by unfold ok64; omega
  have k3 : ok64 1000000 := by unfold ok64; omega
  obtain ⟨x, hx⟩ : ∃ x, n.natAbs = x := ⟨_, rfl⟩
  have hxb : x ≤ 1000000000000000000 := by omega
  have w1 : wrapF .u64 (Int.tdiv (x : Int) 1000000) = ((x / 1000000 : Nat) : Int) := wrapU64N (k := x / 1000000) (by omega)
  have w2 : Int.tmod (x : Int) 1000000 = ((x % 1000000 : Nat) : Int) := rfl
  obtain ⟨ng, hng⟩ : ∃ b, decide (n < 0) = b := ⟨_, rfl⟩
  have hneg : ((decide (n < 0) == false) != true) = ng := by rw [← hng]; cases decide (n < 0) <;> rfl
  have z1 : ((1000000 : Nat) : Int) = 1000000 := rfl
  have z2 : Int.natAbs 1000000 = 1000000 := rfl
  unfold perM
  rw [hx, hng]
  simp only [i64]
  refine callT_of k30_ok k30_name (Z.T hmix ?_)
  simp only [k30, k30c, zz, leaves, undef, pin, Int.reduceLT, C.lps, C.isLoop, bsliceD, contents, gate, evalI, St.ev, St.put, List.replicate, Nat.reduceSub, Nat.reduceAdd, binJ, lenOfD, ressD, resD, D.ok, D.cells, one, reduceCtorEq, Nat.reduceEqDiff, Int.reduceEq]
  refine callX_eq (m44 _ _) ?_
  simp only [zz, leaves, undef, pin, Int.reduceLT, C.lps, C.isLoop, bsliceD, contents, gate, evalI, St.ev, St.put, List.replicate, Nat.reduceSub, Nat.reduceAdd, binJ, lenOfD, ressD, resD, D.ok, D.cells, one, reduceCtorEq, Nat.reduceEqDiff, Int.reduceEq, hm]
  refine callX_eq (b45 _ _ k1 _) ?_
  simp only [zz, leaves, undef, pin, Int.reduceLT, C.lps, C.isLoop, bsliceD, contents, gate, evalI, St.ev, St.put, List.replicate, Nat.reduceSub, Nat.reduceAdd, binJ, lenOfD, ressD, resD, D.ok, D.cells, one, reduceCtorEq, Nat.reduceEqDiff, Int.reduceEq, b1]
  refine callX_eq (b45 _ _ k1 _) ?_
  simp only [zz, leaves, undef, pin, Int.reduceLT, C.lps, C.isLoop, bsliceD, contents, gate, evalI, St.ev, St.put, List.replicate, Nat.reduceSub, Nat.reduceAdd, binJ, lenOfD, ressD, resD, D.ok, D.cells, one, reduceCtorEq, Nat.reduceEqDiff, Int.reduceEq, b2]
  refine callX_eq (mag47 _ k2 _) ?_
  simp only [zz, leaves, undef, pin, Int.reduceLT, C.lps, C.isLoop, bsliceD, contents, gate, evalI, St.ev, St.put, List.replicate, Nat.reduceSub, Nat.reduceAdd, binJ, lenOfD, ressD, resD, D.ok, D.cells, one, reduceCtorEq, Nat.reduceEqDiff, Int.reduceEq, u64, hx]
  refine callX_eq (mag47 _ k3 _) ?_
  simp only [zz, leaves, undef, pin, Int.reduceLT, C.lps, C.isLoop, bsliceD, contents, gate, evalI, St.ev, St.put, List.replicate, Nat.reduceSub, Nat.reduceAdd, binJ, lenOfD, ressD, resD, D.ok, D.cells, one, reduceCtorEq, Nat.reduceEqDiff, Int.reduceEq, u64, z1, z2, w1, w2, hneg]
  refine callX_eq (rnd49 (x / 1000000) (x % 1000000) 1000000 ng mode (by omega) (Nat.mod_lt _ (by decide)) (by decide) _) ?_
  have hR := (rndN_le ng mode (x / 1000000) (x % 1000000) 1000000).2
  simp only [zz, leaves, undef, pin, Int.reduceLT, C.lps, C.isLoop, bsliceD, contents, gate, evalI, St.ev, St.put, List.replicate, Nat.reduceSub, Nat.reduceAdd, binJ, lenOfD, ressD, resD, D.ok, D.cells, one, reduceCtorEq, Nat.reduceEqDiff, Int.reduceEq, u64]
  refine callX_eq (sgn50 _ _ (by omega) _) ?_
  simp only [zz, leaves, undef, pin, Int.reduceLT, C.lps, C.isLoop, bsliceD, contents, gate, evalI, St.ev, St.put, List.replicate, Nat.reduceSub, Nat.reduceAdd, binJ, lenOfD, ressD, resD, D.ok, D.cells, one, reduceCtorEq, Nat.reduceEqDiff, Int.reduceEq, i64, sgn]

/-- The product of two rates, and the error's number. -/
def mulS (a b mode : Int) : Int × Int :=
  if okMode mode then
    if bey a 1000000000 ∨ bey b 1000000000 then (0, 3) else
    if perM (a * b) mode ≤ 1000000000 then (sgn (decide (a * b < 0)) (perM (a * b) mode), 0) else (0, 3)
  else (0, 1)

theorem mul_bound {a b : Int} (h1 : ¬ bey a 1000000000) (h2 : ¬ bey b 1000000000) : -1000000000000000000 ≤ a * b ∧ a * b ≤ 1000000000000000000 := by
  have e1 : a.natAbs ≤ 1000000000 := by unfold bey at h1; omega
  have e2 : b.natAbs ≤ 1000000000 := by unfold bey at h2; omega
  have := Nat.mul_le_mul e1 e2
  rw [← Int.natAbs_mul] at this
  omega

theorem mul16 (a b mode : Int) (m : List Ent) : CallT Try.prog 16 [i64 a, i64 b, i64 mode] m fun d m' => d = mdD (mulS a b mode) ∧ m' = m := by
  have k3 : ok64 (-1000000000) := by unfold ok64; omega
  by_cases hm : okMode mode
  · by_cases b1 : bey a 1000000000
    · have e : mulS a b mode = (0, 3) := by unfold mulS; rw [if_pos hm, if_pos (.inl b1)]
      rw [e]
      simp only [i64, mdD]
      refine callT_of k16_ok k16_name (Z.T hmix ?_)
      simp only [k16, k16c, zz, leaves, undef, pin, Int.reduceLT, C.lps, C.isLoop, bsliceD, contents, gate, evalI, St.ev, St.put, List.replicate, Nat.reduceSub, Nat.reduceAdd, binJ, lenOfD, ressD, resD, D.ok, D.cells, one, reduceCtorEq, Nat.reduceEqDiff, Int.reduceEq]
      refine callX_eq (m20 _ _) ?_
      simp only [zz, leaves, undef, pin, Int.reduceLT, C.lps, C.isLoop, bsliceD, contents, gate, evalI, St.ev, St.put, List.replicate, Nat.reduceSub, Nat.reduceAdd, binJ, lenOfD, ressD, resD, D.ok, D.cells, one, reduceCtorEq, Nat.reduceEqDiff, Int.reduceEq, hm]
      refine callX_eq (b21 _ _ k3 _) ?_
      simp only [zz, leaves, undef, pin, Int.reduceLT, C.lps, C.isLoop, bsliceD, contents, gate, evalI, St.ev, St.put, List.replicate, Nat.reduceSub, Nat.reduceAdd, binJ, lenOfD, ressD, resD, D.ok, D.cells, one, reduceCtorEq, Nat.reduceEqDiff, Int.reduceEq, b1]
    · by_cases b2 : bey b 1000000000
      · have e : mulS a b mode = (0, 3) := by unfold mulS; rw [if_pos hm, if_pos (.inr b2)]
        rw [e]
        simp only [i64, mdD]
        refine callT_of k16_ok k16_name (Z.T hmix ?_)
        simp only [k16, k16c, zz, leaves, undef, pin, Int.reduceLT, C.lps, C.isLoop, bsliceD, contents, gate, evalI, St.ev, St.put, List.replicate, Nat.reduceSub, Nat.reduceAdd, binJ, lenOfD, ressD, resD, D.ok, D.cells, one, reduceCtorEq, Nat.reduceEqDiff, Int.reduceEq]
        refine callX_eq (m20 _ _) ?_
        simp only [zz, leaves, undef, pin, Int.reduceLT, C.lps, C.isLoop, bsliceD, contents, gate, evalI, St.ev, St.put, List.replicate, Nat.reduceSub, Nat.reduceAdd, binJ, lenOfD, ressD, resD, D.ok, D.cells, one, reduceCtorEq, Nat.reduceEqDiff, Int.reduceEq, hm]
        refine callX_eq (b21 _ _ k3 _) ?_
        simp only [zz, leaves, undef, pin, Int.reduceLT, C.lps, C.isLoop, bsliceD, contents, gate, evalI, St.ev, St.put, List.replicate, Nat.reduceSub, Nat.reduceAdd, binJ, lenOfD, ressD, resD, D.ok, D.cells, one, reduceCtorEq, Nat.reduceEqDiff, Int.reduceEq, b1]
        refine callX_eq (b21 _ _ k3 _) ?_
        simp only [zz, leaves, undef, pin, Int.reduceLT, C.lps, C.isLoop, bsliceD, contents, gate, evalI, St.ev, St.put, List.replicate, Nat.reduceSub, Nat.reduceAdd, binJ, lenOfD, ressD, resD, D.ok, D.cells, one, reduceCtorEq, Nat.reduceEqDiff, Int.reduceEq, b2]
      · have e : mulS a b mode = if perM (a * b) mode ≤ 1000000000 then (sgn (decide (a * b < 0)) (perM (a * b) mode), 0) else (0, 3) := by
          unfold mulS; rw [if_pos hm, if_neg (fun h => h.elim b1 b2)]
        rw [e]
        have hb := mul_bound b1 b2
        have w : wrapF .i64 (a * b) = a * b := wrapI (by omega)
        simp only [i64, mdD]
        refine callT_of k16_ok k16_name (Z.T hmix ?_)
        simp only [k16, k16c, zz, leaves, undef, pin, Int.reduceLT, C.lps, C.isLoop, bsliceD, contents, gate, evalI, St.ev, St.put, List.replicate, Nat.reduceSub, Nat.reduceAdd, binJ, lenOfD, ressD, resD, D.ok, D.cells, one, reduceCtorEq, Nat.reduceEqDiff, Int.reduceEq]
        refine callX_eq (m20 _ _) ?_
        simp only [zz, leaves, undef, pin, Int.reduceLT, C.lps, C.isLoop, bsliceD, contents, gate, evalI, St.ev, St.put, List.replicate, Nat.reduceSub, Nat.reduceAdd, binJ, lenOfD, ressD, resD, D.ok, D.cells, one, reduceCtorEq, Nat.reduceEqDiff, Int.reduceEq, hm]
        refine callX_eq (b21 _ _ k3 _) ?_
        simp only [zz, leaves, undef, pin, Int.reduceLT, C.lps, C.isLoop, bsliceD, contents, gate, evalI, St.ev, St.put, List.replicate, Nat.reduceSub, Nat.reduceAdd, binJ, lenOfD, ressD, resD, D.ok, D.cells, one, reduceCtorEq, Nat.reduceEqDiff, Int.reduceEq, b1]
        refine callX_eq (b21 _ _ k3 _) ?_
        simp only [zz, leaves, undef, pin, Int.reduceLT, C.lps, C.isLoop, bsliceD, contents, gate, evalI, St.ev, St.put, List.replicate, Nat.reduceSub, Nat.reduceAdd, binJ, lenOfD, ressD, resD, D.ok, D.cells, one, reduceCtorEq, Nat.reduceEqDiff, Int.reduceEq, b2, w]
        refine callX_eq (div30 (a * b) mode hm hb _) ?_
        generalize perM (a * b) mode = R
        generalize decide (a * b < 0) = ng
        have bR := beyR ng R
        simp only [zz, leaves, undef, pin, Int.reduceLT, C.lps, C.isLoop, bsliceD, contents, gate, evalI, St.ev, St.put, List.replicate, Nat.reduceSub, Nat.reduceAdd, binJ, lenOfD, ressD, resD, D.ok, D.cells, one, reduceCtorEq, Nat.reduceEqDiff, Int.reduceEq, i64]
        refine callX_eq (b21 _ _ k3 _) ?_
        by_cases g3 : R ≤ 1000000000
        · have bR' : ¬ bey (sgn ng R) 1000000000 := fun h => bR.1 h g3
          simp only [zz, leaves, undef, pin, Int.reduceLT, C.lps, C.isLoop, bsliceD, contents, gate, evalI, St.ev, St.put, List.replicate, Nat.reduceSub, Nat.reduceAdd, binJ, lenOfD, ressD, resD, D.ok, D.cells, one, reduceCtorEq, Nat.reduceEqDiff, Int.reduceEq, bR', g3]
        · have bR' := bR.2 g3
          simp only [zz, leaves, undef, pin, Int.reduceLT, C.lps, C.isLoop, bsliceD, contents, gate, evalI, St.ev, St.put, List.replicate, Nat.reduceSub, Nat.reduceAdd, binJ, lenOfD, ressD, resD, D.ok, D.cells, one, reduceCtorEq, Nat.reduceEqDiff, Int.reduceEq, bR', g3]
  · have e : mulS a b mode = (0, 1) := by unfold mulS; rw [if_neg hm]
    rw [e]
    simp only [i64, mdD]
    refine callT_of k16_ok k16_name (Z.T hmix ?_)
    simp only [k16, k16c, zz, leaves, undef, pin, Int.reduceLT, C.lps, C.isLoop, bsliceD, contents, gate, evalI, St.ev, St.put, List.replicate, Nat.reduceSub, Nat.reduceAdd, binJ, lenOfD, ressD, resD, D.ok, D.cells, one, reduceCtorEq, Nat.reduceEqDiff, Int.reduceEq]
    refine callX_eq (m20 _ _) ?_
    simp only [zz, leaves, undef, pin, Int.reduceLT, C.lps, C.isLoop, bsliceD, contents, gate, evalI, St.ev, St.put, List.replicate, Nat.reduceSub, Nat.reduceAdd, binJ, lenOfD, ressD, resD, D.ok, D.cells, one, reduceCtorEq, Nat.reduceEqDiff, Int.reduceEq, hm]

theorem mul17 (a b mode : Int) (m : List Ent) : CallT Try.prog 17 [i64 a, i64 b, i64 mode] m fun d m' => d = mdD (mulS a b mode) ∧ m' = m := by
  have k3 : ok64 (-1000000000) := by unfold ok64; omega
  by_cases hm : okMode mode
  · have m1 : ¬ mode < 0 := by unfold okMode at hm; omega
    have m2 : ¬ 5 < mode := by unfold okMode at hm; omega
    by_cases b1 : bey a 1000000000
    · have e : mulS a b mode = (0, 3) := by unfold mulS; rw [if_pos hm, if_pos (.inl b1)]
      rw [e]
      simp only [i64, mdD]
      refine callT_of k17_ok k17_name (Z.T hmix ?_)
      simp only [k17, k17c, m1, m2, zz, leaves, undef, pin, Int.reduceLT, C.lps, C.isLoop, bsliceD, contents, gate, evalI, St.ev, St.put, List.replicate, Nat.reduceSub, Nat.reduceAdd, binJ, lenOfD, ressD, resD, D.ok, D.cells, one, reduceCtorEq, Nat.reduceEqDiff, Int.reduceEq]
      refine callX_eq (b25 _ _ k3 _) ?_
      simp only [zz, leaves, undef, pin, Int.reduceLT, C.lps, C.isLoop, bsliceD, contents, gate, evalI, St.ev, St.put, List.replicate, Nat.reduceSub, Nat.reduceAdd, binJ, lenOfD, ressD, resD, D.ok, D.cells, one, reduceCtorEq, Nat.reduceEqDiff, Int.reduceEq, b1]
    · by_cases b2 : bey b 1000000000
      · have e : mulS a b mode = (0, 3) := by unfold mulS; rw [if_pos hm, if_pos (.inr b2)]
        rw [e]
        simp only [i64, mdD]
        refine callT_of k17_ok k17_name (Z.T hmix ?_)
        simp only [k17, k17c, m1, m2, zz, leaves, undef, pin, Int.reduceLT, C.lps, C.isLoop, bsliceD, contents, gate, evalI, St.ev, St.put, List.replicate, Nat.reduceSub, Nat.reduceAdd, binJ, lenOfD, ressD, resD, D.ok, D.cells, one, reduceCtorEq, Nat.reduceEqDiff, Int.reduceEq]
        refine callX_eq (b25 _ _ k3 _) ?_
        simp only [zz, leaves, undef, pin, Int.reduceLT, C.lps, C.isLoop, bsliceD, contents, gate, evalI, St.ev, St.put, List.replicate, Nat.reduceSub, Nat.reduceAdd, binJ, lenOfD, ressD, resD, D.ok, D.cells, one, reduceCtorEq, Nat.reduceEqDiff, Int.reduceEq, b1]
        refine callX_eq (b25 _ _ k3 _) ?_
        simp only [zz, leaves, undef, pin, Int.reduceLT, C.lps, C.isLoop, bsliceD, contents, gate, evalI, St.ev, St.put, List.replicate, Nat.reduceSub, Nat.reduceAdd, binJ, lenOfD, ressD, resD, D.ok, D.cells, one, reduceCtorEq, Nat.reduceEqDiff, Int.reduceEq, b2]
      · have e : mulS a b mode = if perM (a * b) mode ≤ 1000000000 then (sgn (decide (a * b < 0)) (perM (a * b) mode), 0) else (0, 3) := by
          unfold mulS; rw [if_pos hm, if_neg (fun h => h.elim b1 b2)]
        rw [e]
        have hb := mul_bound b1 b2
        have w : wrapF .i64 (a * b) = a * b := wrapI (by omega)
        have hrs := round_same (a * b) 1000000 mode (by decide) (decide (a * b < 0)) (.inr rfl) hm
        simp only [i64, mdD]
        refine callT_of k17_ok k17_name (Z.T hmix ?_)
        simp only [k17, k17c, m1, m2, zz, leaves, undef, pin, Int.reduceLT, C.lps, C.isLoop, bsliceD, contents, gate, evalI, St.ev, St.put, List.replicate, Nat.reduceSub, Nat.reduceAdd, binJ, lenOfD, ressD, resD, D.ok, D.cells, one, reduceCtorEq, Nat.reduceEqDiff, Int.reduceEq]
        refine callX_eq (b25 _ _ k3 _) ?_
        simp only [zz, leaves, undef, pin, Int.reduceLT, C.lps, C.isLoop, bsliceD, contents, gate, evalI, St.ev, St.put, List.replicate, Nat.reduceSub, Nat.reduceAdd, binJ, lenOfD, ressD, resD, D.ok, D.cells, one, reduceCtorEq, Nat.reduceEqDiff, Int.reduceEq, b1]
        refine callX_eq (b25 _ _ k3 _) ?_
        simp only [zz, leaves, undef, pin, Int.reduceLT, C.lps, C.isLoop, bsliceD, contents, gate, evalI, St.ev, St.put, List.replicate, Nat.reduceSub, Nat.reduceAdd, binJ, lenOfD, ressD, resD, D.ok, D.cells, one, reduceCtorEq, Nat.reduceEqDiff, Int.reduceEq, b2, w]
        refine callX_eq (floor26 (a * b) 1000000 (by omega) (by decide) (by decide) _) ?_
        simp only [zz, leaves, undef, pin, Int.reduceLT, C.lps, C.isLoop, bsliceD, contents, gate, evalI, St.ev, St.put, List.replicate, Nat.reduceSub, Nat.reduceAdd, binJ, lenOfD, ressD, resD, D.ok, D.cells, one, reduceCtorEq, Nat.reduceEqDiff, Int.reduceEq, i64]
        refine callX_eq (rnd27 (a * b / 1000000) (a * b % 1000000) 1000000 mode (by unfold ok64; omega) (by omega) (by decide) _) ?_
        rw [show rdF mode (a * b / 1000000) (a * b % 1000000) 1000000 = sgn (decide (a * b < 0)) (perM (a * b) mode) from hrs.symm]
        generalize perM (a * b) mode = R
        generalize decide (a * b < 0) = ng
        have bR := beyR ng R
        simp only [zz, leaves, undef, pin, Int.reduceLT, C.lps, C.isLoop, bsliceD, contents, gate, evalI, St.ev, St.put, List.replicate, Nat.reduceSub, Nat.reduceAdd, binJ, lenOfD, ressD, resD, D.ok, D.cells, one, reduceCtorEq, Nat.reduceEqDiff, Int.reduceEq, i64]
        refine callX_eq (b25 _ _ k3 _) ?_
        by_cases g3 : R ≤ 1000000000
        · have bR' : ¬ bey (sgn ng R) 1000000000 := fun h => bR.1 h g3
          simp only [zz, leaves, undef, pin, Int.reduceLT, C.lps, C.isLoop, bsliceD, contents, gate, evalI, St.ev, St.put, List.replicate, Nat.reduceSub, Nat.reduceAdd, binJ, lenOfD, ressD, resD, D.ok, D.cells, one, reduceCtorEq, Nat.reduceEqDiff, Int.reduceEq, bR', g3]
        · have bR' := bR.2 g3
          simp only [zz, leaves, undef, pin, Int.reduceLT, C.lps, C.isLoop, bsliceD, contents, gate, evalI, St.ev, St.put, List.replicate, Nat.reduceSub, Nat.reduceAdd, binJ, lenOfD, ressD, resD, D.ok, D.cells, one, reduceCtorEq, Nat.reduceEqDiff, Int.reduceEq, bR', g3]
  · have e : mulS a b mode = (0, 1) := by unfold mulS; rw [if_neg hm]
    rw [e]
    simp only [i64, mdD]
    by_cases m1 : mode < 0
    · refine callT_of k17_ok k17_name (Z.T hmix ?_)
      simp only [k17, k17c, m1, zz, leaves, undef, pin, Int.reduceLT, C.lps, C.isLoop, bsliceD, contents, gate, evalI, St.ev, St.put, List.replicate, Nat.reduceSub, Nat.reduceAdd, binJ, lenOfD, ressD, resD, D.ok, D.cells, one, reduceCtorEq, Nat.reduceEqDiff, Int.reduceEq]
    · have m2 : 5 < mode := by unfold okMode at hm; omega
      refine callT_of k17_ok k17_name (Z.T hmix ?_)
      simp only [k17, k17c, m1, m2, zz, leaves, undef, pin, Int.reduceLT, C.lps, C.isLoop, bsliceD, contents, gate, evalI, St.ev, St.put, List.replicate, Nat.reduceSub, Nat.reduceAdd, binJ, lenOfD, ressD, resD, D.ok, D.cells, one, reduceCtorEq, Nat.reduceEqDiff, Int.reduceEq]

theorem lawMul (a b mode : Int) (h1 : ok64 a) (h2 : ok64 b) : CallT Try.prog 8 [i64 a, i64 b, i64 mode] [] fun d _ => d = .v (.bool true) := by
  simp only [i64]
  refine callT_of k8_ok k8_name (Z.T hmix ?_)
  simp only [k8, k8c, zz, leaves, undef, pin, Int.reduceLT, C.lps, C.isLoop, bsliceD, contents, gate, evalI, St.ev, St.put, List.replicate, Nat.reduceSub, Nat.reduceAdd, binJ, lenOfD, ressD, resD, D.ok, D.cells, one, reduceCtorEq, Nat.reduceEqDiff, Int.reduceEq]
  refine callX_eq (mul16 a b mode _) ?_
  simp only [zz, leaves, undef, pin, Int.reduceLT, C.lps, C.isLoop, bsliceD, contents, gate, evalI, St.ev, St.put, List.replicate, Nat.reduceSub, Nat.reduceAdd, binJ, lenOfD, ressD, resD, D.ok, D.cells, one, reduceCtorEq, Nat.reduceEqDiff, Int.reduceEq, mdD, i64]
  refine callX_eq (mul17 a b mode _) ?_
  simp only [zz, leaves, undef, pin, Int.reduceLT, C.lps, C.isLoop, bsliceD, contents, gate, evalI, St.ev, St.put, List.replicate, Nat.reduceSub, Nat.reduceAdd, binJ, lenOfD, ressD, resD, D.ok, D.cells, one, reduceCtorEq, Nat.reduceEqDiff, Int.reduceEq, mdD, i64]
  refine callX_eq (app18 a b mode h1 h2 _) ?_
  simp only [zz, leaves, undef, pin, Int.reduceLT, C.lps, C.isLoop, bsliceD, contents, gate, evalI, St.ev, St.put, List.replicate, Nat.reduceSub, Nat.reduceAdd, binJ, lenOfD, ressD, resD, D.ok, D.cells, one, reduceCtorEq, Nat.reduceEqDiff, Int.reduceEq, mdD, i64]
  refine callX_eq (app19 a b mode h1 h2 _) ?_
  simp only [zz, leaves, undef, pin, Int.reduceLT, C.lps, C.isLoop, bsliceD, contents, gate, evalI, St.ev, St.put, List.replicate, Nat.reduceSub, Nat.reduceAdd, binJ, lenOfD, ressD, resD, D.ok, D.cells, one, reduceCtorEq, Nat.reduceEqDiff, Int.reduceEq, mdD, i64]
  refine callX_eq (awake03 _) ?_
  simp only [zz, leaves, undef, pin, Int.reduceLT, C.lps, C.isLoop, bsliceD, contents, gate, evalI, St.ev, St.put, List.replicate, Nat.reduceSub, Nat.reduceAdd, binJ, lenOfD, ressD, resD, D.ok, D.cells, one, reduceCtorEq, Nat.reduceEqDiff, Int.reduceEq]

theorem lawFromRatio (a b mode : Int) : CallT Try.prog 3 [i64 a, i64 b, i64 mode] [] fun d _ => d = .v (.bool true) := by
  simp only [i64]
  refine callT_of k3_ok k3_name (Z.T hmix ?_)
  simp only [k3, k3c, zz, leaves, undef, pin, Int.reduceLT, C.lps, C.isLoop, bsliceD, contents, gate, evalI, St.ev, St.put, List.replicate, Nat.reduceSub, Nat.reduceAdd, binJ, lenOfD, ressD, resD, D.ok, D.cells, one, reduceCtorEq, Nat.reduceEqDiff, Int.reduceEq]
  refine callX_eq (fr9 a b mode _) ?_
  simp only [zz, leaves, undef, pin, Int.reduceLT, C.lps, C.isLoop, bsliceD, contents, gate, evalI, St.ev, St.put, List.replicate, Nat.reduceSub, Nat.reduceAdd, binJ, lenOfD, ressD, resD, D.ok, D.cells, one, reduceCtorEq, Nat.reduceEqDiff, Int.reduceEq, mdD, i64]
  refine callX_eq (fr10 a b mode _) ?_
  simp only [zz, leaves, undef, pin, Int.reduceLT, C.lps, C.isLoop, bsliceD, contents, gate, evalI, St.ev, St.put, List.replicate, Nat.reduceSub, Nat.reduceAdd, binJ, lenOfD, ressD, resD, D.ok, D.cells, one, reduceCtorEq, Nat.reduceEqDiff, Int.reduceEq, mdD, i64]
  refine callX_eq (awake03 _) ?_
  simp only [zz, leaves, undef, pin, Int.reduceLT, C.lps, C.isLoop, bsliceD, contents, gate, evalI, St.ev, St.put, List.replicate, Nat.reduceSub, Nat.reduceAdd, binJ, lenOfD, ressD, resD, D.ok, D.cells, one, reduceCtorEq, Nat.reduceEqDiff, Int.reduceEq]
end Go.Proofs.Ytmocaajdcjgohaa
