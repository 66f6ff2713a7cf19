/-
  money.MulDiv and the reference's MulDiv: both come to the same.
-/
import Derived.Test.YtlfhdejlpnljbaaMon2
set_option linter.unusedSimpArgs false
set_option linter.unusedVariables false
set_option maxHeartbeats 2000000
namespace Go.Proofs.Ytlfhdejlpnljbaa
open Go.Tm
set_option maxRecDepth 10000

/-- Does n exceed k in absolute value. -/
def bey (n k : Int) : Prop := k < n ∨ n < -k
instance (n k : Int) : Decidable (bey n k) := by unfold bey; infer_instance
/-- Is it a rounding mode. -/
def okMode (n : Int) : Prop := 0 ≤ n ∧ n ≤ 5
instance (n : Int) : Decidable (okMode n) := by unfold okMode; infer_instance
theorem m44 (n : Int) (m : List Ent) : CallT Try.prog 44 [i64 n] m fun d m' => d = .v (.bool (decide (okMode n))) ∧ m' = m := mode44 n m
theorem m51 (n : Int) (m : List Ent) : CallT Try.prog 51 [i64 n] m fun d m' => d = .v (.bool (decide (okMode n))) ∧ m' = m := mode51 n m
theorem b45 (n k : Int) (hk : ok64 (-k)) (m : List Ent) : CallT Try.prog 45 [i64 n, i64 k] m fun d m' => d = .v (.bool (decide (bey n k))) ∧ m' = m := bey45 n k hk m
theorem b52 (n k : Int) (hk : ok64 (-k)) (m : List Ent) : CallT Try.prog 52 [i64 n, i64 k] m fun d m' => d = .v (.bool (decide (bey n k))) ∧ m' = m := bey52 n k hk m

/-- Is the sign of a product and quotient negative. -/
def neg3 (c num den : Int) : Bool := (decide (c < 0) != decide (num < 0)) != decide (den < 0)

/-- c * num / den, rounded; and the error's number. -/
def mdS (c num den mode : Int) : Int × Int :=
  if okMode mode then
    if den = 0 then (0, 12) else
    if bey c 1000000000000000 ∨ bey num 1000000000 ∨ bey den 1000000000 then (0, 3) else
    if rndN (neg3 c num den) mode (c.natAbs * num.natAbs / den.natAbs) (c.natAbs * num.natAbs % den.natAbs) den.natAbs ≤ 1000000000000000 then
      (sgn (neg3 c num den) (rndN (neg3 c num den) mode (c.natAbs * num.natAbs / den.natAbs) (c.natAbs * num.natAbs % den.natAbs) den.natAbs), 0)
    else (0, 3)
  else (0, 1)

def mdD (p : Int × Int) : D := .tup [i64 p.1, i64 p.2]

theorem md40 (c num den mode : Int) (hc : ok64 c) (hn : ok64 num) (hd : ok64 den) (m : List Ent) :
    CallT Try.prog 40 [i64 c, i64 num, i64 den, i64 mode] m fun d m' => d = mdD (mdS c num den mode) ∧ m' = m := by
  have k1 : ok64 (-1000000000000000) := by unfold ok64; omega
  have k2 : ok64 (-1000000000) := by unfold ok64; omega
  by_cases hm : okMode mode
  · by_cases h0 : den = 0
    · have e : mdS c num den mode = (0, 12) := by unfold mdS; rw [if_pos hm, if_pos h0]
      rw [e]
      simp only [i64, mdD]
      refine callT_of k40_ok k40_name (Z.T hmix ?_)
      simp only [k40, k40c, zz, leaves, undef, pin, Int.reduceLT, C.lps, C.isLoop, bsliceD, contents, gate, evalI, St.ev, St.put, List.replicate, Nat.reduceSub, Nat.reduceAdd, binJ, lenOfD, ressD, resD, D.ok, D.cells, one, reduceCtorEq, Nat.reduceEqDiff, Int.reduceEq]
      refine callX_eq (m44 _ _) ?_
      simp only [zz, leaves, undef, pin, Int.reduceLT, C.lps, C.isLoop, bsliceD, contents, gate, evalI, St.ev, St.put, List.replicate, Nat.reduceSub, Nat.reduceAdd, binJ, lenOfD, ressD, resD, D.ok, D.cells, one, reduceCtorEq, Nat.reduceEqDiff, Int.reduceEq, hm, h0]
    · by_cases b1 : bey c 1000000000000000
      · have e : mdS c num den mode = (0, 3) := by unfold mdS; rw [if_pos hm, if_neg h0, if_pos (.inl b1)]
        rw [e]
        simp only [i64, mdD]
        refine callT_of k40_ok k40_name (Z.T hmix ?_)
        simp only [k40, k40c, zz, leaves, undef, pin, Int.reduceLT, C.lps, C.isLoop, bsliceD, contents, gate, evalI, St.ev, St.put, List.replicate, Nat.reduceSub, Nat.reduceAdd, binJ, lenOfD, ressD, resD, D.ok, D.cells, one, reduceCtorEq, Nat.reduceEqDiff, Int.reduceEq]
        refine callX_eq (m44 _ _) ?_
        simp only [zz, leaves, undef, pin, Int.reduceLT, C.lps, C.isLoop, bsliceD, contents, gate, evalI, St.ev, St.put, List.replicate, Nat.reduceSub, Nat.reduceAdd, binJ, lenOfD, ressD, resD, D.ok, D.cells, one, reduceCtorEq, Nat.reduceEqDiff, Int.reduceEq, hm, h0]
        refine callX_eq (b45 _ _ k1 _) ?_
        simp only [zz, leaves, undef, pin, Int.reduceLT, C.lps, C.isLoop, bsliceD, contents, gate, evalI, St.ev, St.put, List.replicate, Nat.reduceSub, Nat.reduceAdd, binJ, lenOfD, ressD, resD, D.ok, D.cells, one, reduceCtorEq, Nat.reduceEqDiff, Int.reduceEq, b1]
      · by_cases b2 : bey num 1000000000
        · have e : mdS c num den mode = (0, 3) := by unfold mdS; rw [if_pos hm, if_neg h0, if_pos (.inr (.inl b2))]
          rw [e]
          simp only [i64, mdD]
          refine callT_of k40_ok k40_name (Z.T hmix ?_)
          simp only [k40, k40c, zz, leaves, undef, pin, Int.reduceLT, C.lps, C.isLoop, bsliceD, contents, gate, evalI, St.ev, St.put, List.replicate, Nat.reduceSub, Nat.reduceAdd, binJ, lenOfD, ressD, resD, D.ok, D.cells, one, reduceCtorEq, Nat.reduceEqDiff, Int.reduceEq]
          refine callX_eq (m44 _ _) ?_
          simp only [zz, leaves, undef, pin, Int.reduceLT, C.lps, C.isLoop, bsliceD, contents, gate, evalI, St.ev, St.put, List.replicate, Nat.reduceSub, Nat.reduceAdd, binJ, lenOfD, ressD, resD, D.ok, D.cells, one, reduceCtorEq, Nat.reduceEqDiff, Int.reduceEq, hm, h0]
          refine callX_eq (b45 _ _ k1 _) ?_
          simp only [zz, leaves, undef, pin, Int.reduceLT, C.lps, C.isLoop, bsliceD, contents, gate, evalI, St.ev, St.put, List.replicate, Nat.reduceSub, Nat.reduceAdd, binJ, lenOfD, ressD, resD, D.ok, D.cells, one, reduceCtorEq, Nat.reduceEqDiff, Int.reduceEq, b1]
          refine callX_eq (b45 _ _ k2 _) ?_
          simp only [zz, leaves, undef, pin, Int.reduceLT, C.lps, C.isLoop, bsliceD, contents, gate, evalI, St.ev, St.put, List.replicate, Nat.reduceSub, Nat.reduceAdd, binJ, lenOfD, ressD, resD, D.ok, D.cells, one, reduceCtorEq, Nat.reduceEqDiff, Int.reduceEq, b2]
        · by_cases b3 : bey den 1000000000
          · have e : mdS c num den mode = (0, 3) := by unfold mdS; rw [if_pos hm, if_neg h0, if_pos (.inr (.inr b3))]
            rw [e]
            simp only [i64, mdD]
            refine callT_of k40_ok k40_name (Z.T hmix ?_)
            simp only [k40, k40c, zz, leaves, undef, pin, Int.reduceLT, C.lps, C.isLoop, bsliceD, contents, gate, evalI, St.ev, St.put, List.replicate, Nat.reduceSub, Nat.reduceAdd, binJ, lenOfD, ressD, resD, D.ok, D.cells, one, reduceCtorEq, Nat.reduceEqDiff, Int.reduceEq]
            refine callX_eq (m44 _ _) ?_
            simp only [zz, leaves, undef, pin, Int.reduceLT, C.lps, C.isLoop, bsliceD, contents, gate, evalI, St.ev, St.put, List.replicate, Nat.reduceSub, Nat.reduceAdd, binJ, lenOfD, ressD, resD, D.ok, D.cells, one, reduceCtorEq, Nat.reduceEqDiff, Int.reduceEq, hm, h0]
            refine callX_eq (b45 _ _ k1 _) ?_
            simp only [zz, leaves, undef, pin, Int.reduceLT, C.lps, C.isLoop, bsliceD, contents, gate, evalI, St.ev, St.put, List.replicate, Nat.reduceSub, Nat.reduceAdd, binJ, lenOfD, ressD, resD, D.ok, D.cells, one, reduceCtorEq, Nat.reduceEqDiff, Int.reduceEq, b1]
            refine callX_eq (b45 _ _ k2 _) ?_
            simp only [zz, leaves, undef, pin, Int.reduceLT, C.lps, C.isLoop, bsliceD, contents, gate, evalI, St.ev, St.put, List.replicate, Nat.reduceSub, Nat.reduceAdd, binJ, lenOfD, ressD, resD, D.ok, D.cells, one, reduceCtorEq, Nat.reduceEqDiff, Int.reduceEq, b2]
            refine callX_eq (b45 _ _ k2 _) ?_
            simp only [zz, leaves, undef, pin, Int.reduceLT, C.lps, C.isLoop, bsliceD, contents, gate, evalI, St.ev, St.put, List.replicate, Nat.reduceSub, Nat.reduceAdd, binJ, lenOfD, ressD, resD, D.ok, D.cells, one, reduceCtorEq, Nat.reduceEqDiff, Int.reduceEq, b3]
          · have e : mdS c num den mode = if rndN (neg3 c num den) mode (c.natAbs * num.natAbs / den.natAbs) (c.natAbs * num.natAbs % den.natAbs) den.natAbs ≤ 1000000000000000 then
                (sgn (neg3 c num den) (rndN (neg3 c num den) mode (c.natAbs * num.natAbs / den.natAbs) (c.natAbs * num.natAbs % den.natAbs) den.natAbs), 0)
                else (0, 3) := by
              unfold mdS; rw [if_pos hm, if_neg h0, if_neg (fun h => h.elim b1 fun h => h.elim b2 b3)]
            rw [e]
            have a1 : c.natAbs ≤ 1000000000000000 := by unfold bey at b1; omega
            have a2 : num.natAbs ≤ 1000000000 := by unfold bey at b2; omega
            have a3 : den.natAbs ≤ 1000000000 ∧ 0 < den.natAbs := by unfold bey at b3; omega
            have hneg : ((((decide (c < 0) == decide (num < 0)) != true) == decide (den < 0)) != true) = neg3 c num den := by
              unfold neg3; cases decide (c < 0) <;> cases decide (num < 0) <;> cases decide (den < 0) <;> rfl
            generalize neg3 c num den = ng at hneg ⊢
            obtain ⟨x, hx⟩ : ∃ x, c.natAbs = x := ⟨_, rfl⟩
            obtain ⟨y, hy⟩ : ∃ x, num.natAbs = x := ⟨_, rfl⟩
            obtain ⟨z, hz⟩ : ∃ x, den.natAbs = x := ⟨_, rfl⟩
            rw [hx, hy, hz]
            rw [hx] at a1
            rw [hy] at a2
            rw [hz] at a3
            simp only [i64, mdD]
            refine callT_of k40_ok k40_name (Z.T hmix ?_)
            simp only [k40, k40c, hneg, zz, leaves, undef, pin, Int.reduceLT, C.lps, C.isLoop, bsliceD, contents, gate, evalI, St.ev, St.put, List.replicate, Nat.reduceSub, Nat.reduceAdd, binJ, lenOfD, ressD, resD, D.ok, D.cells, one, reduceCtorEq, Nat.reduceEqDiff, Int.reduceEq]
            refine callX_eq (m44 _ _) ?_
            simp only [zz, leaves, undef, pin, Int.reduceLT, C.lps, C.isLoop, bsliceD, contents, gate, evalI, St.ev, St.put, List.replicate, Nat.reduceSub, Nat.reduceAdd, binJ, lenOfD, ressD, resD, D.ok, D.cells, one, reduceCtorEq, Nat.reduceEqDiff, Int.reduceEq, hm, h0]
            refine callX_eq (b45 _ _ k1 _) ?_
            simp only [zz, leaves, undef, pin, Int.reduceLT, C.lps, C.isLoop, bsliceD, contents, gate, evalI, St.ev, St.put, List.replicate, Nat.reduceSub, Nat.reduceAdd, binJ, lenOfD, ressD, resD, D.ok, D.cells, one, reduceCtorEq, Nat.reduceEqDiff, Int.reduceEq, b1]
            refine callX_eq (b45 _ _ k2 _) ?_
            simp only [zz, leaves, undef, pin, Int.reduceLT, C.lps, C.isLoop, bsliceD, contents, gate, evalI, St.ev, St.put, List.replicate, Nat.reduceSub, Nat.reduceAdd, binJ, lenOfD, ressD, resD, D.ok, D.cells, one, reduceCtorEq, Nat.reduceEqDiff, Int.reduceEq, b2]
            refine callX_eq (b45 _ _ k2 _) ?_
            simp only [zz, leaves, undef, pin, Int.reduceLT, C.lps, C.isLoop, bsliceD, contents, gate, evalI, St.ev, St.put, List.replicate, Nat.reduceSub, Nat.reduceAdd, binJ, lenOfD, ressD, resD, D.ok, D.cells, one, reduceCtorEq, Nat.reduceEqDiff, Int.reduceEq, b3, hneg]
            refine callX_eq (mag47 _ hc _) ?_
            simp only [zz, leaves, undef, pin, Int.reduceLT, C.lps, C.isLoop, bsliceD, contents, gate, evalI, St.ev, St.put, List.replicate, Nat.reduceSub, Nat.reduceAdd, binJ, lenOfD, ressD, resD, D.ok, D.cells, one, reduceCtorEq, Nat.reduceEqDiff, Int.reduceEq, u64, hx]
            refine callX_eq (mag47 _ hn _) ?_
            simp only [zz, leaves, undef, pin, Int.reduceLT, C.lps, C.isLoop, bsliceD, contents, gate, evalI, St.ev, St.put, List.replicate, Nat.reduceSub, Nat.reduceAdd, binJ, lenOfD, ressD, resD, D.ok, D.cells, one, reduceCtorEq, Nat.reduceEqDiff, Int.reduceEq, u64, hy]
            refine callX_eq (mul46 _ _ (by omega) (by omega) _) ?_
            simp only [zz, leaves, undef, pin, Int.reduceLT, C.lps, C.isLoop, bsliceD, contents, gate, evalI, St.ev, St.put, List.replicate, Nat.reduceSub, Nat.reduceAdd, binJ, lenOfD, ressD, resD, D.ok, D.cells, one, reduceCtorEq, Nat.reduceEqDiff, Int.reduceEq, u64]
            refine callX_eq (mag47 _ hd _) ?_
            have hN := Nat.div_add_mod (x * y) 18446744073709551616
            have hNq := Nat.div_add_mod (x * y) z
            have hlt := Nat.mod_lt (x * y) a3.2
            by_cases g1 : z ≤ x * y / 2 ^ 64
            · have g1' : (z : Int) ≤ ((x * y / 2 ^ 64 : Nat) : Int) := by omega
              have big : 1000000000000000 < x * y / z := by
                have h1 : 1000000000000001 * z ≤ x * y := by omega
                exact (Nat.le_div_iff_mul_le a3.2).2 h1
              have rb : ¬ rndN ng mode (x * y / z) (x * y % z) z ≤ 1000000000000000 := by
                have := (rndN_le ng mode (x * y / z) (x * y % z) z).1; omega
              simp only [zz, leaves, undef, pin, Int.reduceLT, C.lps, C.isLoop, bsliceD, contents, gate, evalI, St.ev, St.put, List.replicate, Nat.reduceSub, Nat.reduceAdd, binJ, lenOfD, ressD, resD, D.ok, D.cells, one, reduceCtorEq, Nat.reduceEqDiff, Int.reduceEq, u64, hz, g1', if_neg rb]
            · have g1' : ¬ (z : Int) ≤ ((x * y / 2 ^ 64 : Nat) : Int) := by omega
              simp only [zz, leaves, undef, pin, Int.reduceLT, C.lps, C.isLoop, bsliceD, contents, gate, evalI, St.ev, St.put, List.replicate, Nat.reduceSub, Nat.reduceAdd, binJ, lenOfD, ressD, resD, D.ok, D.cells, one, reduceCtorEq, Nat.reduceEqDiff, Int.reduceEq, u64, hz, g1']
              refine callX_eq (div48P (x * y / 2 ^ 64) (x * y % 2 ^ 64) z (by omega) (by omega) (by omega) _) ?_
              have e1 : x * y / 2 ^ 64 * 18446744073709551616 + x * y % 2 ^ 64 = x * y := by omega
              rw [e1]
              by_cases g2 : 1000000000000000 < x * y / z
              · have g2' : (1000000000000000 : Int) < ((x * y / z : Nat) : Int) := by omega
                have rb : ¬ rndN ng mode (x * y / z) (x * y % z) z ≤ 1000000000000000 := by
                  have := (rndN_le ng mode (x * y / z) (x * y % z) z).1; omega
                simp only [zz, leaves, undef, pin, Int.reduceLT, C.lps, C.isLoop, bsliceD, contents, gate, evalI, St.ev, St.put, List.replicate, Nat.reduceSub, Nat.reduceAdd, binJ, lenOfD, ressD, resD, D.ok, D.cells, one, reduceCtorEq, Nat.reduceEqDiff, Int.reduceEq, u64, g2', rb]
              · have g2' : ¬ (1000000000000000 : Int) < ((x * y / z : Nat) : Int) := by omega
                simp only [zz, leaves, undef, pin, Int.reduceLT, C.lps, C.isLoop, bsliceD, contents, gate, evalI, St.ev, St.put, List.replicate, Nat.reduceSub, Nat.reduceAdd, binJ, lenOfD, ressD, resD, D.ok, D.cells, one, reduceCtorEq, Nat.reduceEqDiff, Int.reduceEq, u64, g2']
                refine callX_eq (rnd49 _ _ _ _ _ (by omega) hlt (by omega) _) ?_
                have rl := rndN_le ng mode (x * y / z) (x * y % z) z
                generalize rndN ng mode (x * y / z) (x * y % z) z = R at rl ⊢
                by_cases g3 : R ≤ 1000000000000000
                · have g3' : ¬ (1000000000000000 : Int) < (R : Int) := by omega
                  simp only [zz, leaves, undef, pin, Int.reduceLT, C.lps, C.isLoop, bsliceD, contents, gate, evalI, St.ev, St.put, List.replicate, Nat.reduceSub, Nat.reduceAdd, binJ, lenOfD, ressD, resD, D.ok, D.cells, one, reduceCtorEq, Nat.reduceEqDiff, Int.reduceEq, u64, g3, g3']
                  refine callX_eq (sgn50 _ _ (by omega) _) ?_
                  simp only [zz, leaves, undef, pin, Int.reduceLT, C.lps, C.isLoop, bsliceD, contents, gate, evalI, St.ev, St.put, List.replicate, Nat.reduceSub, Nat.reduceAdd, binJ, lenOfD, ressD, resD, D.ok, D.cells, one, reduceCtorEq, Nat.reduceEqDiff, Int.reduceEq, i64, sgn]
                · have g3' : (1000000000000000 : Int) < (R : Int) := by omega
                  simp only [zz, leaves, undef, pin, Int.reduceLT, C.lps, C.isLoop, bsliceD, contents, gate, evalI, St.ev, St.put, List.replicate, Nat.reduceSub, Nat.reduceAdd, binJ, lenOfD, ressD, resD, D.ok, D.cells, one, reduceCtorEq, Nat.reduceEqDiff, Int.reduceEq, u64, g3, g3']
  · have e : mdS c num den mode = (0, 1) := by unfold mdS; rw [if_neg hm]
    rw [e]
    simp only [i64, mdD]
    refine callT_of k40_ok k40_name (Z.T hmix ?_)
    simp only [k40, k40c, zz, leaves, undef, pin, Int.reduceLT, C.lps, C.isLoop, bsliceD, contents, gate, evalI, St.ev, St.put, List.replicate, Nat.reduceSub, Nat.reduceAdd, binJ, lenOfD, ressD, resD, D.ok, D.cells, one, reduceCtorEq, Nat.reduceEqDiff, Int.reduceEq]
    refine callX_eq (m44 _ _) ?_
    simp only [zz, leaves, undef, pin, Int.reduceLT, C.lps, C.isLoop, bsliceD, contents, gate, evalI, St.ev, St.put, List.replicate, Nat.reduceSub, Nat.reduceAdd, binJ, lenOfD, ressD, resD, D.ok, D.cells, one, reduceCtorEq, Nat.reduceEqDiff, Int.reduceEq, hm]
end Go.Proofs.Ytlfhdejlpnljbaa
