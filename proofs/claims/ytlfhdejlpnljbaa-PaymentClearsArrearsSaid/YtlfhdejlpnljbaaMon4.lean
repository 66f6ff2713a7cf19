/-
  The reference's MulDiv comes to the same.
-/
import Derived.Test.YtlfhdejlpnljbaaMon3
set_option linter.unusedSimpArgs false
set_option linter.unusedVariables false
set_option maxHeartbeats 2000000
namespace Go.Proofs.Ytlfhdejlpnljbaa
open Go.Tm
set_option maxRecDepth 10000

theorem beyS (neg : Bool) (R : Nat) : (bey (sgn neg R) 1000000000000000 → ¬ R ≤ 1000000000000000) ∧ (¬ R ≤ 1000000000000000 → bey (sgn neg R) 1000000000000000) := by
  unfold bey sgn; cases neg <;> simp <;> omega

theorem md41 (c num den mode : Int) (hc : ok64 c) (hn : ok64 num) (hd : ok64 den) (m : List Ent) :
    CallT Try.prog 41 [i64 c, i64 num, i64 den, i64 mode] m fun d m' => d = mdD (mdS c num den mode) ∧ m' = m := by
  have k1 : ok64 (-1000000000000000) := by unfold ok64; omega
  have k2 : ok64 (-1000000000) := by unfold ok64; omega
  by_cases hm : okMode mode
  · by_cases h0 : den = 0
    · have e : mdS c num den mode = (0, 12) := by unfold mdS; rw [if_pos hm, if_pos h0]
      rw [e]
      simp only [i64, mdD]
      refine callT_of k41_ok k41_name (Z.T hmix ?_)
      simp only [k41, k41c, zz, leaves, undef, pin, Int.reduceLT, C.lps, C.isLoop, bsliceD, contents, gate, evalI, St.ev, St.put, List.replicate, Nat.reduceSub, Nat.reduceAdd, binJ, lenOfD, ressD, resD, D.ok, D.cells, one, reduceCtorEq, Nat.reduceEqDiff, Int.reduceEq]
      refine callX_eq (m51 _ _) ?_
      simp only [zz, leaves, undef, pin, Int.reduceLT, C.lps, C.isLoop, bsliceD, contents, gate, evalI, St.ev, St.put, List.replicate, Nat.reduceSub, Nat.reduceAdd, binJ, lenOfD, ressD, resD, D.ok, D.cells, one, reduceCtorEq, Nat.reduceEqDiff, Int.reduceEq, hm, h0]
    · by_cases b1 : bey c 1000000000000000
      · have e : mdS c num den mode = (0, 3) := by unfold mdS; rw [if_pos hm, if_neg h0, if_pos (.inl b1)]
        rw [e]
        simp only [i64, mdD]
        refine callT_of k41_ok k41_name (Z.T hmix ?_)
        simp only [k41, k41c, zz, leaves, undef, pin, Int.reduceLT, C.lps, C.isLoop, bsliceD, contents, gate, evalI, St.ev, St.put, List.replicate, Nat.reduceSub, Nat.reduceAdd, binJ, lenOfD, ressD, resD, D.ok, D.cells, one, reduceCtorEq, Nat.reduceEqDiff, Int.reduceEq]
        refine callX_eq (m51 _ _) ?_
        simp only [zz, leaves, undef, pin, Int.reduceLT, C.lps, C.isLoop, bsliceD, contents, gate, evalI, St.ev, St.put, List.replicate, Nat.reduceSub, Nat.reduceAdd, binJ, lenOfD, ressD, resD, D.ok, D.cells, one, reduceCtorEq, Nat.reduceEqDiff, Int.reduceEq, hm, h0]
        refine callX_eq (b52 _ _ k1 _) ?_
        simp only [zz, leaves, undef, pin, Int.reduceLT, C.lps, C.isLoop, bsliceD, contents, gate, evalI, St.ev, St.put, List.replicate, Nat.reduceSub, Nat.reduceAdd, binJ, lenOfD, ressD, resD, D.ok, D.cells, one, reduceCtorEq, Nat.reduceEqDiff, Int.reduceEq, b1]
      · by_cases b2 : bey num 1000000000
        · have e : mdS c num den mode = (0, 3) := by unfold mdS; rw [if_pos hm, if_neg h0, if_pos (.inr (.inl b2))]
          rw [e]
          simp only [i64, mdD]
          refine callT_of k41_ok k41_name (Z.T hmix ?_)
          simp only [k41, k41c, zz, leaves, undef, pin, Int.reduceLT, C.lps, C.isLoop, bsliceD, contents, gate, evalI, St.ev, St.put, List.replicate, Nat.reduceSub, Nat.reduceAdd, binJ, lenOfD, ressD, resD, D.ok, D.cells, one, reduceCtorEq, Nat.reduceEqDiff, Int.reduceEq]
          refine callX_eq (m51 _ _) ?_
          simp only [zz, leaves, undef, pin, Int.reduceLT, C.lps, C.isLoop, bsliceD, contents, gate, evalI, St.ev, St.put, List.replicate, Nat.reduceSub, Nat.reduceAdd, binJ, lenOfD, ressD, resD, D.ok, D.cells, one, reduceCtorEq, Nat.reduceEqDiff, Int.reduceEq, hm, h0]
          refine callX_eq (b52 _ _ k1 _) ?_
          simp only [zz, leaves, undef, pin, Int.reduceLT, C.lps, C.isLoop, bsliceD, contents, gate, evalI, St.ev, St.put, List.replicate, Nat.reduceSub, Nat.reduceAdd, binJ, lenOfD, ressD, resD, D.ok, D.cells, one, reduceCtorEq, Nat.reduceEqDiff, Int.reduceEq, b1]
          refine callX_eq (b52 _ _ k2 _) ?_
          simp only [zz, leaves, undef, pin, Int.reduceLT, C.lps, C.isLoop, bsliceD, contents, gate, evalI, St.ev, St.put, List.replicate, Nat.reduceSub, Nat.reduceAdd, binJ, lenOfD, ressD, resD, D.ok, D.cells, one, reduceCtorEq, Nat.reduceEqDiff, Int.reduceEq, b2]
        · by_cases b3 : bey den 1000000000
          · have e : mdS c num den mode = (0, 3) := by unfold mdS; rw [if_pos hm, if_neg h0, if_pos (.inr (.inr b3))]
            rw [e]
            simp only [i64, mdD]
            refine callT_of k41_ok k41_name (Z.T hmix ?_)
            simp only [k41, k41c, zz, leaves, undef, pin, Int.reduceLT, C.lps, C.isLoop, bsliceD, contents, gate, evalI, St.ev, St.put, List.replicate, Nat.reduceSub, Nat.reduceAdd, binJ, lenOfD, ressD, resD, D.ok, D.cells, one, reduceCtorEq, Nat.reduceEqDiff, Int.reduceEq]
            refine callX_eq (m51 _ _) ?_
            simp only [zz, leaves, undef, pin, Int.reduceLT, C.lps, C.isLoop, bsliceD, contents, gate, evalI, St.ev, St.put, List.replicate, Nat.reduceSub, Nat.reduceAdd, binJ, lenOfD, ressD, resD, D.ok, D.cells, one, reduceCtorEq, Nat.reduceEqDiff, Int.reduceEq, hm, h0]
            refine callX_eq (b52 _ _ k1 _) ?_
            simp only [zz, leaves, undef, pin, Int.reduceLT, C.lps, C.isLoop, bsliceD, contents, gate, evalI, St.ev, St.put, List.replicate, Nat.reduceSub, Nat.reduceAdd, binJ, lenOfD, ressD, resD, D.ok, D.cells, one, reduceCtorEq, Nat.reduceEqDiff, Int.reduceEq, b1]
            refine callX_eq (b52 _ _ k2 _) ?_
            simp only [zz, leaves, undef, pin, Int.reduceLT, C.lps, C.isLoop, bsliceD, contents, gate, evalI, St.ev, St.put, List.replicate, Nat.reduceSub, Nat.reduceAdd, binJ, lenOfD, ressD, resD, D.ok, D.cells, one, reduceCtorEq, Nat.reduceEqDiff, Int.reduceEq, b2]
            refine callX_eq (b52 _ _ k2 _) ?_
            simp only [zz, leaves, undef, pin, Int.reduceLT, C.lps, C.isLoop, bsliceD, contents, gate, evalI, St.ev, St.put, List.replicate, Nat.reduceSub, Nat.reduceAdd, binJ, lenOfD, ressD, resD, D.ok, D.cells, one, reduceCtorEq, Nat.reduceEqDiff, Int.reduceEq, b3]
          · have e : mdS c num den mode = if rndN (neg3 c num den) mode (c.natAbs * num.natAbs / den.natAbs) (c.natAbs * num.natAbs % den.natAbs) den.natAbs ≤ 1000000000000000 then
                (sgn (neg3 c num den) (rndN (neg3 c num den) mode (c.natAbs * num.natAbs / den.natAbs) (c.natAbs * num.natAbs % den.natAbs) den.natAbs), 0)
                else (0, 3) := by
              unfold mdS; rw [if_pos hm, if_neg h0, if_neg (fun h => h.elim b1 fun h => h.elim b2 b3)]
            rw [e]
            have a1 : c.natAbs ≤ 1000000000000000 := by unfold bey at b1; omega
            have a2 : num.natAbs ≤ 1000000000 := by unfold bey at b2; omega
            have a3 : den.natAbs ≤ 1000000000 ∧ 0 < den.natAbs := by unfold bey at b3; omega
            have hneg : ((((decide (c < 0) == decide (num < 0)) != true) == decide (den < 0)) != true) = neg3 c num den := by
              unfold neg3; cases decide (c < 0) <;> cases decide (num < 0) <;> cases decide (den < 0) <;> rfl
            generalize neg3 c num den = ng at hneg ⊢
            have c1 : ok64 (-c) := by unfold bey at b1; unfold ok64; omega
            have c2 : ok64 (-num) := by unfold bey at b2; unfold ok64; omega
            have c3 : ok64 (-den) := by unfold bey at b3; unfold ok64; omega
            obtain ⟨x, hx⟩ : ∃ x, c.natAbs = x := ⟨_, rfl⟩
            obtain ⟨y, hy⟩ : ∃ x, num.natAbs = x := ⟨_, rfl⟩
            obtain ⟨z, hz⟩ : ∃ x, den.natAbs = x := ⟨_, rfl⟩
            rw [hx, hy, hz]
            rw [hx] at a1
            rw [hy] at a2
            rw [hz] at a3
            obtain ⟨a3, a4⟩ := a3
            have z0 : ¬ (z : Int) = 0 := by omega
            have w1 : wrapF .i64 (Int.tdiv (x : Int) (z : Int)) = ((x / z : Nat) : Int) := wrapN _ (Nat.lt_of_le_of_lt (Nat.div_le_self _ _) (by omega))
            have hdm := Nat.div_add_mod x z
            have hml := Nat.mod_lt x a4
            have hM := Nat.mul_le_mul (show x % z ≤ 1000000000 by omega) a2
            have w2 : Int.tmod (x : Int) (z : Int) = ((x % z : Nat) : Int) := rfl
            have w3 : wrapF .i64 (((x % z : Nat) : Int) * (y : Int)) = ((x % z * y : Nat) : Int) := by rw [mulN, wrapN _ (by omega)]
            obtain ⟨L, hL⟩ : ∃ L, x % z * y = L := ⟨_, rfl⟩
            rw [hL] at hM w3
            have w4 : wrapF .i64 (Int.tdiv (L : Int) (z : Int)) = ((L / z : Nat) : Int) := wrapN _ (Nat.lt_of_le_of_lt (Nat.div_le_self _ _) (by omega))
            have w5 : Int.tmod (L : Int) (z : Int) = ((L % z : Nat) : Int) := rfl
            have hxy : x * y = z * (x / z * y) + L := by
              rw [← hL, ← Nat.mul_assoc, ← Nat.add_mul, hdm]
            have hq : x * y / z = x / z * y + L / z := by rw [hxy, Nat.mul_add_div a4]
            have hr : x * y % z = L % z := by rw [hxy, Nat.mul_add_mod]
            rw [hq, hr]
            have hLz : L / z ≤ 1000000000 := by
              rw [← hL]
              refine Nat.le_trans ?_ a2
              have h1 := Nat.mul_le_mul_right y (Nat.le_of_lt hml)
              have h2 := Nat.div_le_div_right (c := z) h1
              rwa [Nat.mul_div_cancel_left _ a4] at h2
            simp only [i64, mdD]
            refine callT_of k41_ok k41_name (Z.T hmix ?_)
            simp only [k41, k41c, zz, leaves, undef, pin, Int.reduceLT, C.lps, C.isLoop, bsliceD, contents, gate, evalI, St.ev, St.put, List.replicate, Nat.reduceSub, Nat.reduceAdd, binJ, lenOfD, ressD, resD, D.ok, D.cells, one, reduceCtorEq, Nat.reduceEqDiff, Int.reduceEq]
            refine callX_eq (m51 _ _) ?_
            simp only [zz, leaves, undef, pin, Int.reduceLT, C.lps, C.isLoop, bsliceD, contents, gate, evalI, St.ev, St.put, List.replicate, Nat.reduceSub, Nat.reduceAdd, binJ, lenOfD, ressD, resD, D.ok, D.cells, one, reduceCtorEq, Nat.reduceEqDiff, Int.reduceEq, hm, h0]
            refine callX_eq (b52 _ _ k1 _) ?_
            simp only [zz, leaves, undef, pin, Int.reduceLT, C.lps, C.isLoop, bsliceD, contents, gate, evalI, St.ev, St.put, List.replicate, Nat.reduceSub, Nat.reduceAdd, binJ, lenOfD, ressD, resD, D.ok, D.cells, one, reduceCtorEq, Nat.reduceEqDiff, Int.reduceEq, b1]
            refine callX_eq (b52 _ _ k2 _) ?_
            simp only [zz, leaves, undef, pin, Int.reduceLT, C.lps, C.isLoop, bsliceD, contents, gate, evalI, St.ev, St.put, List.replicate, Nat.reduceSub, Nat.reduceAdd, binJ, lenOfD, ressD, resD, D.ok, D.cells, one, reduceCtorEq, Nat.reduceEqDiff, Int.reduceEq, b2]
            refine callX_eq (b52 _ _ k2 _) ?_
            simp only [zz, leaves, undef, pin, Int.reduceLT, C.lps, C.isLoop, bsliceD, contents, gate, evalI, St.ev, St.put, List.replicate, Nat.reduceSub, Nat.reduceAdd, binJ, lenOfD, ressD, resD, D.ok, D.cells, one, reduceCtorEq, Nat.reduceEqDiff, Int.reduceEq, b3]
            refine callX_eq (abs53 _ hc c1 _) ?_
            simp only [zz, leaves, undef, pin, Int.reduceLT, C.lps, C.isLoop, bsliceD, contents, gate, evalI, St.ev, St.put, List.replicate, Nat.reduceSub, Nat.reduceAdd, binJ, lenOfD, ressD, resD, D.ok, D.cells, one, reduceCtorEq, Nat.reduceEqDiff, Int.reduceEq, i64, hx]
            refine callX_eq (abs53 _ hn c2 _) ?_
            simp only [zz, leaves, undef, pin, Int.reduceLT, C.lps, C.isLoop, bsliceD, contents, gate, evalI, St.ev, St.put, List.replicate, Nat.reduceSub, Nat.reduceAdd, binJ, lenOfD, ressD, resD, D.ok, D.cells, one, reduceCtorEq, Nat.reduceEqDiff, Int.reduceEq, i64, hy]
            refine callX_eq (abs53 _ hd c3 _) ?_
            have w7 : x / z * y ≤ 1000000000000000 → wrapF .i64 (((x / z : Nat) : Int) * (y : Int)) = ((x / z * y : Nat) : Int) := fun h => by rw [mulN, wrapN _ (by omega)]
            have w8 : x / z * y ≤ 1000000000000000 → wrapF .i64 (((x / z * y : Nat) : Int) + ((L / z : Nat) : Int)) = ((x / z * y + L / z : Nat) : Int) := fun h => by rw [addN, wrapN _ (by omega)]
            by_cases y0 : y = 0
            · have hs : x / z * y ≤ 1000000000000000 := by rw [y0]; omega
              have y0' : ¬ (0 : Int) < (y : Int) := by omega
              simp only [zz, leaves, undef, pin, Int.reduceLT, C.lps, C.isLoop, bsliceD, contents, gate, evalI, St.ev, St.put, List.replicate, Nat.reduceSub, Nat.reduceAdd, binJ, lenOfD, ressD, resD, D.ok, D.cells, one, reduceCtorEq, Nat.reduceEqDiff, Int.reduceEq, i64, hz, z0, y0', w1, w2, w3, w4, w5, w7 hs, w8 hs, hneg]
              refine callX_eq (rnd54 _ _ _ _ _ (by omega) (Nat.mod_lt _ a4) (by omega) _) ?_
              have bR := beyS ng (rndN ng mode (x / z * y + L / z) (L % z) z)
              generalize rndN ng mode (x / z * y + L / z) (L % z) z = R at bR ⊢
              by_cases g3 : R ≤ 1000000000000000
              · have bR' : ¬ bey (sgn ng R) 1000000000000000 := fun h => bR.1 h g3
                simp only [zz, leaves, undef, pin, Int.reduceLT, C.lps, C.isLoop, bsliceD, contents, gate, evalI, St.ev, St.put, List.replicate, Nat.reduceSub, Nat.reduceAdd, binJ, lenOfD, ressD, resD, D.ok, D.cells, one, reduceCtorEq, Nat.reduceEqDiff, Int.reduceEq, i64, g3]
                refine callX_eq (b52 _ _ k1 _) ?_
                simp only [zz, leaves, undef, pin, Int.reduceLT, C.lps, C.isLoop, bsliceD, contents, gate, evalI, St.ev, St.put, List.replicate, Nat.reduceSub, Nat.reduceAdd, binJ, lenOfD, ressD, resD, D.ok, D.cells, one, reduceCtorEq, Nat.reduceEqDiff, Int.reduceEq, bR']
              · have bR' := bR.2 g3
                simp only [zz, leaves, undef, pin, Int.reduceLT, C.lps, C.isLoop, bsliceD, contents, gate, evalI, St.ev, St.put, List.replicate, Nat.reduceSub, Nat.reduceAdd, binJ, lenOfD, ressD, resD, D.ok, D.cells, one, reduceCtorEq, Nat.reduceEqDiff, Int.reduceEq, i64, g3]
                refine callX_eq (b52 _ _ k1 _) ?_
                simp only [zz, leaves, undef, pin, Int.reduceLT, C.lps, C.isLoop, bsliceD, contents, gate, evalI, St.ev, St.put, List.replicate, Nat.reduceSub, Nat.reduceAdd, binJ, lenOfD, ressD, resD, D.ok, D.cells, one, reduceCtorEq, Nat.reduceEqDiff, Int.reduceEq, bR']
            · have y0' : (0 : Int) < (y : Int) := by omega
              have y1 : ¬ (y : Int) = 0 := by omega
              have w6 : wrapF .i64 (Int.tdiv 1000000000000000 (y : Int)) = ((1000000000000000 / y : Nat) : Int) := wrapN _ (Nat.lt_of_le_of_lt (Nat.div_le_self _ _) (by decide))
              by_cases g : 1000000000000000 / y < x / z
              · have g' : ((1000000000000000 / y : Nat) : Int) < ((x / z : Nat) : Int) := by omega
                have big : 1000000000000000 < x / z * y := (Nat.div_lt_iff_lt_mul (by omega)).1 g
                have rb : ¬ rndN ng mode (x / z * y + L / z) (L % z) z ≤ 1000000000000000 :=
                  Nat.not_le_of_gt (Nat.lt_of_lt_of_le big (Nat.le_trans (Nat.le_add_right _ _) (rndN_le ng mode (x / z * y + L / z) (L % z) z).1))
                simp only [zz, leaves, undef, pin, Int.reduceLT, C.lps, C.isLoop, bsliceD, contents, gate, evalI, St.ev, St.put, List.replicate, Nat.reduceSub, Nat.reduceAdd, binJ, lenOfD, ressD, resD, D.ok, D.cells, one, reduceCtorEq, Nat.reduceEqDiff, Int.reduceEq, i64, hz, z0, y0', y1, w1, w6, g', if_neg rb]
              · have g' : ¬ ((1000000000000000 / y : Nat) : Int) < ((x / z : Nat) : Int) := by omega
                have hs : x / z * y ≤ 1000000000000000 := Nat.le_trans (Nat.mul_le_mul_right y (Nat.not_lt.1 g)) (Nat.div_mul_le_self _ _)
                simp only [zz, leaves, undef, pin, Int.reduceLT, C.lps, C.isLoop, bsliceD, contents, gate, evalI, St.ev, St.put, List.replicate, Nat.reduceSub, Nat.reduceAdd, binJ, lenOfD, ressD, resD, D.ok, D.cells, one, reduceCtorEq, Nat.reduceEqDiff, Int.reduceEq, i64, hz, z0, y0', y1, w1, w6, g', w2, w3, w4, w5, w7 hs, w8 hs, hneg]
                refine callX_eq (rnd54 _ _ _ _ _ (by omega) (Nat.mod_lt _ a4) (by omega) _) ?_
                have bR := beyS ng (rndN ng mode (x / z * y + L / z) (L % z) z)
                generalize rndN ng mode (x / z * y + L / z) (L % z) z = R at bR ⊢
                by_cases g3 : R ≤ 1000000000000000
                · have bR' : ¬ bey (sgn ng R) 1000000000000000 := fun h => bR.1 h g3
                  simp only [zz, leaves, undef, pin, Int.reduceLT, C.lps, C.isLoop, bsliceD, contents, gate, evalI, St.ev, St.put, List.replicate, Nat.reduceSub, Nat.reduceAdd, binJ, lenOfD, ressD, resD, D.ok, D.cells, one, reduceCtorEq, Nat.reduceEqDiff, Int.reduceEq, i64, g3]
                  refine callX_eq (b52 _ _ k1 _) ?_
                  simp only [zz, leaves, undef, pin, Int.reduceLT, C.lps, C.isLoop, bsliceD, contents, gate, evalI, St.ev, St.put, List.replicate, Nat.reduceSub, Nat.reduceAdd, binJ, lenOfD, ressD, resD, D.ok, D.cells, one, reduceCtorEq, Nat.reduceEqDiff, Int.reduceEq, bR']
                · have bR' := bR.2 g3
                  simp only [zz, leaves, undef, pin, Int.reduceLT, C.lps, C.isLoop, bsliceD, contents, gate, evalI, St.ev, St.put, List.replicate, Nat.reduceSub, Nat.reduceAdd, binJ, lenOfD, ressD, resD, D.ok, D.cells, one, reduceCtorEq, Nat.reduceEqDiff, Int.reduceEq, i64, g3]
                  refine callX_eq (b52 _ _ k1 _) ?_
                  simp only [zz, leaves, undef, pin, Int.reduceLT, C.lps, C.isLoop, bsliceD, contents, gate, evalI, St.ev, St.put, List.replicate, Nat.reduceSub, Nat.reduceAdd, binJ, lenOfD, ressD, resD, D.ok, D.cells, one, reduceCtorEq, Nat.reduceEqDiff, Int.reduceEq, bR']
  · have e : mdS c num den mode = (0, 1) := by unfold mdS; rw [if_neg hm]
    rw [e]
    simp only [i64, mdD]
    refine callT_of k41_ok k41_name (Z.T hmix ?_)
    simp only [k41, k41c, zz, leaves, undef, pin, Int.reduceLT, C.lps, C.isLoop, bsliceD, contents, gate, evalI, St.ev, St.put, List.replicate, Nat.reduceSub, Nat.reduceAdd, binJ, lenOfD, ressD, resD, D.ok, D.cells, one, reduceCtorEq, Nat.reduceEqDiff, Int.reduceEq]
    refine callX_eq (m51 _ _) ?_
    simp only [zz, leaves, undef, pin, Int.reduceLT, C.lps, C.isLoop, bsliceD, contents, gate, evalI, St.ev, St.put, List.replicate, Nat.reduceSub, Nat.reduceAdd, binJ, lenOfD, ressD, resD, D.ok, D.cells, one, reduceCtorEq, Nat.reduceEqDiff, Int.reduceEq, hm]
end Go.Proofs.Ytlfhdejlpnljbaa
