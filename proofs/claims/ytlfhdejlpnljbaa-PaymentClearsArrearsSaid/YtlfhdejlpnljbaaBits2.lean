/-
  math/bits: products and quotients.
-/
import Derived.Test.YtlfhdejlpnljbaaBits
set_option linter.unusedSimpArgs false
set_option linter.unusedVariables false
set_option maxHeartbeats 2000000
namespace Go.Proofs.Ytlfhdejlpnljbaa
open Go.Tm
set_option maxRecDepth 10000

theorem andM {x : Nat} (h : x < 18446744073709551616) : bitJ Nat.land .u64 (x : Int) 4294967295 = .int .u64 ((x % 4294967296 : Nat) : Int) := by
  have e1 : ((x : Int) % modF .u64).toNat = x := by simp only [modF]; omega
  have e2 : ((4294967295 : Int) % modF .u64).toNat = 4294967295 := by decide
  unfold bitJ
  rw [e1, e2]
  have e3 : Nat.land x 4294967295 = x % 4294967296 := Nat.and_two_pow_sub_one_eq_mod x 32
  rw [e3, wrapU64N (by omega)]

theorem mulN (a b : Nat) : (a : Int) * (b : Int) = ((a * b : Nat) : Int) := (Int.natCast_mul a b).symm
theorem addN (a b : Nat) : (a : Int) + (b : Int) = ((a + b : Nat) : Int) := (Int.natCast_add a b).symm

theorem mul46 (x y : Nat) (hx : x < 2 ^ 50) (hy : y < 4294967296) (m : List Ent) : CallT Try.prog 46 [u64 x, u64 y] m fun d m' => d = .tup [u64 (x * y / 2 ^ 64), u64 (x * y % 2 ^ 64)] ∧ m' = m := by
  have h1 := andM (x := x) (by omega)
  have h2 := andM (x := y) (by omega)
  have y1 : y % 4294967296 = y := Nat.mod_eq_of_lt hy
  have y2 : y / 4294967296 = 0 := Nat.div_eq_of_lt hy
  have b0 : x % 4294967296 * y < 18446744073709551616 := by
    have := Nat.mul_le_mul (show x % 4294967296 ≤ 4294967295 by omega) (show y ≤ 4294967295 by omega)
    omega
  have b1 : x / 4294967296 * y < 1125899906842624 := by
    have := Nat.mul_le_mul (show x / 4294967296 ≤ 262143 by omega) (show y ≤ 4294967295 by omega)
    omega
  have hT : x / 4294967296 * y + x % 4294967296 * y / 4294967296 = x * y / 4294967296 := by
    have e : x * y = x % 4294967296 * y + 4294967296 * (x / 4294967296 * y) := by
      rw [← Nat.mul_assoc, ← Nat.add_mul, Nat.mod_add_div]
    rw [e, Nat.add_mul_div_left _ _ (by decide), Nat.add_comm]
  have p0 : wrapF .u64 (((x % 4294967296 : Nat) : Int) * (y : Int)) = ((x % 4294967296 * y : Nat) : Int) := by rw [mulN, wrapU64N b0]
  have p1 : wrapF .u64 (((x / 4294967296 : Nat) : Int) * (y : Int)) = ((x / 4294967296 * y : Nat) : Int) := by rw [mulN, wrapU64N (by omega)]
  have p2 : wrapF .u64 (((x / 4294967296 * y : Nat) : Int) + ((x % 4294967296 * y / 4294967296 : Nat) : Int)) = ((x * y / 4294967296 : Nat) : Int) := by rw [addN, hT, wrapU64N (by omega)]
  have h3 := andM (x := x * y / 4294967296) (by omega)
  have z0 : wrapF .u64 (0 : Int) = 0 := rfl
  have p3 : wrapF .u64 ((x : Int) * (y : Int)) = ((x * y % 2 ^ 64 : Nat) : Int) := by rw [mulN]; simp only [wrapF]; omega
  have hs : x * y / 4294967296 / 4294967296 = x * y / 2 ^ 64 := by rw [Nat.div_div_eq_div_mul]
  have hz : x * y / 4294967296 % 4294967296 / 4294967296 = 0 := Nat.div_eq_of_lt (Nat.mod_lt _ (by decide))
  have b2 : x * y / 2 ^ 64 < 18446744073709551616 := by rw [← hs]; omega
  have p4 : wrapF .u64 ((x * y / 4294967296 % 4294967296 : Nat) : Int) = ((x * y / 4294967296 % 4294967296 : Nat) : Int) := wrapU64N (by omega)
  have p5 : wrapF .u64 ((x * y / 2 ^ 64 : Nat) : Int) = ((x * y / 2 ^ 64 : Nat) : Int) := wrapU64N b2
  simp only [u64]
  refine callT_of k46_ok k46_name (Z.T hmix ?_)
  simp only [k46, k46c, h1, h2, sh32, fdivN, y1, y2, cast0, p0, p1, p2, p3, h3, hs, Int.mul_zero, z0, Int.add_zero, Int.zero_add, p4, p5, hz, zz, leaves, undef, pin, Int.reduceLT, C.lps, C.isLoop, bsliceD, contents, gate, evalI, St.ev, St.put, List.replicate, Nat.reduceSub, Nat.reduceAdd, binJ, lenOfD, ressD, resD, D.ok, D.cells, one, reduceCtorEq, Nat.reduceEqDiff, Int.reduceEq]
end Go.Proofs.Ytlfhdejlpnljbaa
