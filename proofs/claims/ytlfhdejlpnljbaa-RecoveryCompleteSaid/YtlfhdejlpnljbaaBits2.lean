/-
  math/bits: products and quotients.
-/
import Derived.Test.YtlfhdejlpnljbaaBits
set_option linter.unusedSimpArgs false
set_option linter.unusedVariables false
set_option maxHeartbeats 2000000
namespace Go.Proofs.Ytlfhdejlpnljbaa
open Go.Tm
set_option maxRecDepth 10000

theorem andM {x : Nat} (h : x < 18446744073709551616) : bitJ Nat.land .u64 (x : Int) 4294967295 = .int .u64 ((x % 4294967296 : Nat) : Int) := by
  have e1 : ((x : Int) % modF .u64).toNat = x := by simp only [modF]; omega
  have e2 : ((4294967295 : Int) % modF .u64).toNat = 4294967295 := by decide
  unfold bitJ
  rw [e1, e2]
  have e3 : Nat.land x 4294967295 = x % 4294967296 := Nat.and_two_pow_sub_one_eq_mod x 32
  rw [e3, wrapU64N (by omega)]

theorem mulN (a b : Nat) : (a : Int) * (b : Int) = ((a * b : Nat) : Int) := (Int.natCast_mul a b).symm
theorem addN (a b : Nat) : (a : Int) + (b : Int) = ((a + b : Nat) : Int) := (Int.natCast_add a b).symm

theorem mul46 (x y : Nat) (hx : x < 2 ^ 50) (hy : y < 4294967296) (m : List Ent) : CallT Try.prog 46 [u64 x, u64 y] m fun d m' => d = .tup [u64 (x * y / 2 ^ 64), u64 (x * y % 2 ^ 64)] ∧ m' = m := by
  have h1 := andM (x := x) (by omega)
  have h2 := andM (x := y) (by omega)
  have y1 : y % 4294967296 = y := Nat.mod_eq_of_lt hy
  have y2 : y / 4294967296 = 0 := Nat.div_eq_of_lt hy
  have b0 : x % 4294967296 * y < 18446744073709551616 := by
    have := Nat.mul_le_mul (show x % 4294967296 ≤ 4294967295 by omega) (show y ≤ 4294967295 by omega)
    omega
  have b1 : x / 4294967296 * y < 1125899906842624 := by
    have := Nat.mul_le_mul (show x / 4294967296 ≤ 262143 by omega) (show y ≤ 4294967295 by omega)
    omega
  have hT : x / 4294967296 * y + x % 4294967296 * y / 4294967296 = x * y / 4294967296 := by
    have e : x * y = x % 4294967296 * y + 4294967296 * (x / 4294967296 * y) := by
      rw [← Nat.mul_assoc, ← Nat.add_mul, Nat.mod_add_div]
    rw [e, Nat.add_mul_div_left _ _ (by decide), Nat.add_comm]
  have p0 : wrapF .u64 (((x % 4294967296 : Nat) : Int) * (y : Int)) = ((x % 4294967296 * y : Nat) : Int) := by rw [mulN, wrapU64N b0]
  have p1 : wrapF .u64 (((x / 4294967296 : Nat) : Int) * (y : Int)) = ((x / 4294967296 * y : Nat) : Int) := by rw [mulN, wrapU64N (by omega)]
  have p2 : wrapF .u64 (((x / 4294967296 * y : Nat) : Int) + ((x % 4294967296 * y / 4294967296 : Nat) : Int)) = ((x * y / 4294967296 : Nat) : Int) := by rw [addN, hT, wrapU64N (by omega)]
  have h3 := andM (x := x * y / 4294967296) (by omega)
  have z0 : wrapF .u64 (0 : Int) = 0 := rfl
  have p3 : wrapF .u64 ((x : Int) * (y : Int)) = ((x * y % 2 ^ 64 : Nat) : Int) := by rw [mulN]; simp only [wrapF]; omega
  have hs : x * y / 4294967296 / 4294967296 = x * y / 2 ^ 64 := by rw [Nat.div_div_eq_div_mul]
  have hz : x * y / 4294967296 % 4294967296 / 4294967296 = 0 := Nat.div_eq_of_lt (Nat.mod_lt _ (by decide))
  have b2 : x * y / 2 ^ 64 < 18446744073709551616 := by rw [← hs]; omega
  have p4 : wrapF .u64 ((x * y / 4294967296 % 4294967296 : Nat) : Int) = ((x * y / 4294967296 % 4294967296 : Nat) : Int) := wrapU64N (by omega)
  have p5 : wrapF .u64 ((x * y / 2 ^ 64 : Nat) : Int) = ((x * y / 2 ^ 64 : Nat) : Int) := wrapU64N b2
  simp only [u64]
  refine callT_of k46_ok k46_name (Z.T hmix ?_)
  simp only [k46, k46c, h1, h2, sh32, fdivN, y1, y2, cast0, p0, p1, p2, p3, h3, hs, Int.mul_zero, z0, Int.add_zero, Int.zero_add, p4, p5, hz, List.getElem?_cons_zero, List.getElem?_cons_succ, neg_int, max_int, min_int, leaves, false_and, and_false, true_or, or_true, or_self, false_or, or_false, cast0, undef, eq_self, not_bool, gP_T, gP_F, bne_self_eq_false, bne_iff_ne, bne_eq_false_iff_eq, Bool.false_eq_true, Bool.true_eq_false, false_implies, true_implies, implies_true, not_true_eq_false, not_false_eq_true, beq_self_eq_true, RegZ_nil, RegZ_op, RegZ_opg, RegZ_callF, RegZ_callFg, DrX_zero, DrX_op, DrX_opg, DrX_callF, DrX_callFg, Z_skip, Z_reg, Z_draw, Z_any, Z_seq, Z_cond, Z_block, Z_loop, Z_exit, Z_ret, pin, KO_ap, KZb_normal, KZb_exit, KZb_ret, KS_normal, KS_exit, KS_ret, KB_normal, KB_exit, KB_ret, KM_normal, KM_exit, KM_ret, KI_normal, KI_exit, KI_ret, andT_ite, map_ite, Option.bind_some, Int.reduceLT, Nat.mul_one, Int.toNat_natCast, Int.natCast_nonneg, EndT_normal, EndT_ret, EndT_exit, endX_some, tupD_one, tupD_two, tupD_nil, Nat.lt_add_one, Nat.zero_lt_succ, C.lps, C.isLoop, bsliceD, contents, true_and, and_true, and_self, Bool.or_false, Bool.false_or, Bool.or_true, Bool.true_or, Bool.or_self, gate, evalI, St.ev, St.put, andT_some, List.getD_cons_succ, List.getD_cons_zero, List.cons_append, List.nil_append, List.replicate,
  List.length_cons, List.length_nil, Nat.reduceSub, Nat.reduceAdd, List.set_cons_succ, List.set_cons_zero, List.map_cons, List.map_nil, Option.map_some, Option.map_none, ← binJ_eq, binJ, decide_true, cond_true, cond_false, if_true, if_false,
  decide_eq_true_eq, decide_eq_false_iff_not, lenOfD, Bool.true_and, Bool.and_true, ressD, resD, D.ok, D.cells, one, reduceCtorEq, Nat.reduceEqDiff, Nat.succ_ne_self, Bool.not_true, Bool.not_false, ← wrapF_eq, Int.reduceEq, decide_false, beq_iff_eq, beq_eq_false_iff_ne, ne_eq]
end Go.Proofs.Ytlfhdejlpnljbaa
