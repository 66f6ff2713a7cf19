/-
  PaymentSchedule on trees; what the postings of a payment are, in plain lists.
-/
import Derived.Test.YtlfhdejlpnljbaaPay
import Derived.Test.YtlfhdejlpnljbaaPureR
set_option linter.unusedSimpArgs false
set_option linter.unusedVariables false
set_option maxHeartbeats 2000000
namespace Go.Proofs.Ytlfhdejlpnljbaa
open Go.Tm
set_option maxRecDepth 10000

/-- The number of payments, and whether there is one. -/
def ptcS (over : Int) (lim : Int) : Int × Bool := if over < 1 then (0, true) else if lim < 1 then (0, false) else ((over - 1) / lim + 1, true)
def ptcD (p : Int × Bool) : D := .tup [i64 p.1, .v (.bool p.2)]

theorem ptc29 (over pay : Int) (c : Cf) (x : D) (ho : ok64 over) (hp : ok64 pay) (hc : c.Ok) (hx : idfree x = true) (m : List Ent) :
    CallT Try.prog 29 [i64 over, i64 pay, cfD c x] m fun d m' => d = ptcD (ptcS over (limS pay c.cap c.floor)) ∧ m' = m := by
  have hcf := cf_free c hx
  have hl0 := limS_nn pay c.cap c.floor
  have hl1 := limS_le pay c.cap c.floor
  have key : CallT Try.prog 29 [i64 over, i64 pay, cfD c x] [] fun d m' => froz 5 m' d = ptcD (ptcS over (limS pay c.cap c.floor)) := by
    unfold ptcS ok64 at *
    simp only [i64, cfD]
    by_cases h : over < 1
    · refine callT_of k29_ok k29_name (Z.T hmix ?_)
      simp only [k29, k29c, zc, Tm.part, Nat.reduceLeDiff, Nat.reduceLT, Int.reduceLE, Int.reduceToNat, Nat.reducePow, Int.reducePow, D.upd, splice, buildD, bound, sliceD, h, zz, leaves, undef, pin, Int.reduceLT, C.lps, C.isLoop, bsliceD, contents, gate, evalI, St.ev, St.put, List.replicate, Nat.reduceSub, Nat.reduceAdd, binJ, lenOfD, ressD, resD, D.ok, D.cells, one, reduceCtorEq, Nat.reduceEqDiff, Int.reduceEq]
      rfl
    · refine callT_of k29_ok k29_name (Z.T hmix ?_)
      simp only [k29, k29c, zc, Tm.part, Nat.reduceLeDiff, Nat.reduceLT, Int.reduceLE, Int.reduceToNat, Nat.reducePow, Int.reducePow, D.upd, splice, buildD, bound, sliceD, h, zz, leaves, undef, pin, Int.reduceLT, C.lps, C.isLoop, bsliceD, contents, gate, evalI, St.ev, St.put, List.replicate, Nat.reduceSub, Nat.reduceAdd, binJ, lenOfD, ressD, resD, D.ok, D.cells, one, reduceCtorEq, Nat.reduceEqDiff, Int.reduceEq]
      refine callX_eq (lim12 pay c x hp hc hx _) ?_
      obtain ⟨L, hL⟩ : ∃ L, limS pay c.cap c.floor = L := ⟨_, rfl⟩
      rw [hL] at hl0 hl1 ⊢
      by_cases h2 : L < 1
      · simp only [zz, leaves, undef, pin, Int.reduceLT, C.lps, C.isLoop, bsliceD, contents, gate, evalI, St.ev, St.put, List.replicate, Nat.reduceSub, Nat.reduceAdd, binJ, lenOfD, ressD, resD, D.ok, D.cells, one, reduceCtorEq, Nat.reduceEqDiff, Int.reduceEq, zc, Tm.part, Nat.reduceLeDiff, Nat.reduceLT, Int.reduceLE, Int.reduceToNat, Nat.reducePow, Int.reducePow, D.upd, splice, buildD, bound, sliceD, i64, h2]
        rfl
      · have h3 : ¬ L = 0 := by omega
        have w1 : wrapF .i64 (over - 1) = over - 1 := wrapI (by omega)
        have w2 : Int.tdiv (over - 1) L = (over - 1) / L := Int.tdiv_eq_ediv_of_nonneg (by omega)
        have hq := Int.ediv_nonneg (a := over - 1) (b := L) (by omega) (by omega)
        have hq2 := Int.ediv_le_self L (show 0 ≤ over - 1 by omega)
        have w3 : wrapF .i64 ((over - 1) / L) = (over - 1) / L := wrapI (by omega)
        have w4 : wrapF .i64 ((over - 1) / L + 1) = (over - 1) / L + 1 := wrapI (by omega)
        simp only [zz, leaves, undef, pin, Int.reduceLT, C.lps, C.isLoop, bsliceD, contents, gate, evalI, St.ev, St.put, List.replicate, Nat.reduceSub, Nat.reduceAdd, binJ, lenOfD, ressD, resD, D.ok, D.cells, one, reduceCtorEq, Nat.reduceEqDiff, Int.reduceEq, zc, Tm.part, Nat.reduceLeDiff, Nat.reduceLT, Int.reduceLE, Int.reduceToNat, Nat.reducePow, Int.reducePow, D.upd, splice, buildD, bound, sliceD, i64, h2, h3, w1, w2, w3, w4]
        rfl
  exact (callP_of (R := fun d => d = ptcD (ptcS over (limS pay c.cap c.floor))) 5 (by simp [idfrees, idfree, i64, hcf]) key m).mono fun _ _ h => ⟨h.1.1, h.2⟩

theorem ceil_same (n L : Int) (hn : 1 ≤ n) (hL : 1 ≤ L) : (n - 1) / L + 1 = if n % L = 0 then n / L else n / L + 1 := by
  have h1 := Int.mul_ediv_add_emod n L
  have h2 := Int.emod_lt_of_pos n (show 0 < L by omega)
  have h3 := Int.emod_nonneg n (show L ≠ 0 by omega)
  generalize n % L = r at *
  generalize n / L = q at *
  split
  · rename_i hr
    subst hr
    have e : n - 1 = (L - 1) + L * (q - 1) := by rw [Int.mul_sub]; omega
    rw [e, Int.add_mul_ediv_left _ _ (by omega), Int.ediv_eq_zero_of_lt (by omega) (by omega)]; omega
  · have e : n - 1 = (r - 1) + L * q := by omega
    rw [e, Int.add_mul_ediv_left _ _ (by omega), Int.ediv_eq_zero_of_lt (by omega) (by omega)]; omega

theorem ptc30 (over pay : Int) (c : Cf) (x : D) (ho : ok64 over) (hp : ok64 pay) (hc : c.Ok) (hx : idfree x = true) (m : List Ent) :
    CallT Try.prog 30 [i64 over, i64 pay, cfD c x] m fun d m' => d = ptcD (ptcS over (limS pay c.cap c.floor)) ∧ m' = m := by
  have hcf := cf_free c hx
  have hl0 := limS_nn pay c.cap c.floor
  have hl1 := limS_le pay c.cap c.floor
  have key : CallT Try.prog 30 [i64 over, i64 pay, cfD c x] [] fun d m' => froz 5 m' d = ptcD (ptcS over (limS pay c.cap c.floor)) := by
    unfold ptcS ok64 at *
    simp only [i64, cfD]
    by_cases h : over < 1
    · refine callT_of k30_ok k30_name (Z.T hmix ?_)
      simp only [k30, k30c, zc, Tm.part, Nat.reduceLeDiff, Nat.reduceLT, Int.reduceLE, Int.reduceToNat, Nat.reducePow, Int.reducePow, D.upd, splice, buildD, bound, sliceD, h, zz, leaves, undef, pin, Int.reduceLT, C.lps, C.isLoop, bsliceD, contents, gate, evalI, St.ev, St.put, List.replicate, Nat.reduceSub, Nat.reduceAdd, binJ, lenOfD, ressD, resD, D.ok, D.cells, one, reduceCtorEq, Nat.reduceEqDiff, Int.reduceEq]
      rfl
    · refine callT_of k30_ok k30_name (Z.T hmix ?_)
      simp only [k30, k30c, zc, Tm.part, Nat.reduceLeDiff, Nat.reduceLT, Int.reduceLE, Int.reduceToNat, Nat.reducePow, Int.reducePow, D.upd, splice, buildD, bound, sliceD, h, zz, leaves, undef, pin, Int.reduceLT, C.lps, C.isLoop, bsliceD, contents, gate, evalI, St.ev, St.put, List.replicate, Nat.reduceSub, Nat.reduceAdd, binJ, lenOfD, ressD, resD, D.ok, D.cells, one, reduceCtorEq, Nat.reduceEqDiff, Int.reduceEq]
      refine callX_eq (lim13 pay c x hp hc hx _) ?_
      obtain ⟨L, hL⟩ : ∃ L, limS pay c.cap c.floor = L := ⟨_, rfl⟩
      rw [hL] at hl0 hl1 ⊢
      by_cases h2 : L < 1
      · have h3 : L = 0 := by omega
        subst h3
        simp only [zz, leaves, undef, pin, Int.reduceLT, C.lps, C.isLoop, bsliceD, contents, gate, evalI, St.ev, St.put, List.replicate, Nat.reduceSub, Nat.reduceAdd, binJ, lenOfD, ressD, resD, D.ok, D.cells, one, reduceCtorEq, Nat.reduceEqDiff, Int.reduceEq, zc, Tm.part, Nat.reduceLeDiff, Nat.reduceLT, Int.reduceLE, Int.reduceToNat, Nat.reducePow, Int.reducePow, D.upd, splice, buildD, bound, sliceD, i64]
        rfl
      · have h3 : ¬ L = 0 := by omega
        have hce := ceil_same over L (by omega) (by omega)
        have w2 : Int.tdiv over L = over / L := Int.tdiv_eq_ediv_of_nonneg (by omega)
        have w5 : Int.tmod over L = over % L := Int.tmod_eq_emod_of_nonneg (by omega)
        have hq := Int.ediv_nonneg (a := over) (b := L) (by omega) (by omega)
        have hq2 := Int.ediv_le_self L (show 0 ≤ over by omega)
        have w3 : wrapF .i64 (over / L) = over / L := wrapI (by omega)
        rw [if_neg h2, hce]
        by_cases h4 : over % L = 0
        · rw [if_pos h4]
          simp only [zz, leaves, undef, pin, Int.reduceLT, C.lps, C.isLoop, bsliceD, contents, gate, evalI, St.ev, St.put, List.replicate, Nat.reduceSub, Nat.reduceAdd, binJ, lenOfD, ressD, resD, D.ok, D.cells, one, reduceCtorEq, Nat.reduceEqDiff, Int.reduceEq, zc, Tm.part, Nat.reduceLeDiff, Nat.reduceLT, Int.reduceLE, Int.reduceToNat, Nat.reducePow, Int.reducePow, D.upd, splice, buildD, bound, sliceD, i64, h3, w2, w3, w5, h4]
          rfl
        · rw [if_neg h4]
          have hm := Int.mul_ediv_add_emod over L
          have hlt : over / L < 9223372036854775807 ∨ over / L = 9223372036854775807 := by omega
          have w4 : wrapF .i64 (over / L + 1) = over / L + 1 := by
            have h5 := Int.ediv_nonneg (a := over - 1) (b := L) (by omega) (by omega)
            have h6 := Int.ediv_le_self L (show 0 ≤ over - 1 by omega)
            rw [if_neg h4] at hce
            exact wrapI (by omega)
          simp only [zz, leaves, undef, pin, Int.reduceLT, C.lps, C.isLoop, bsliceD, contents, gate, evalI, St.ev, St.put, List.replicate, Nat.reduceSub, Nat.reduceAdd, binJ, lenOfD, ressD, resD, D.ok, D.cells, one, reduceCtorEq, Nat.reduceEqDiff, Int.reduceEq, zc, Tm.part, Nat.reduceLeDiff, Nat.reduceLT, Int.reduceLE, Int.reduceToNat, Nat.reducePow, Int.reducePow, D.upd, splice, buildD, bound, sliceD, i64, h3, w2, w3, w4, w5, h4]
          rfl
  exact (callP_of (R := fun d => d = ptcD (ptcS over (limS pay c.cap c.floor))) 5 (by simp [idfrees, idfree, i64, hcf]) key m).mono fun _ _ h => ⟨h.1.1, h.2⟩

theorem lawSchedule (over pay : Int) (c : Cf) (x : List D) (ho : ok64 over) (hp : ok64 pay) (hc : c.Ok) (hx : idfrees x = true) :
    CallT Try.prog 10 [i64 over, i64 pay, cfD c (.sl 1 x)] [] fun d _ => d = .v (.bool true) := by
  have hxf : idfree (.sl 1 x) = true := by simpa [idfree] using hx
  have hl0 := limS_nn pay c.cap c.floor
  have hl1 := limS_le pay c.cap c.floor
  have q1 := fun m => ptc29 over pay c (.sl 1 x) ho hp hc hxf m
  have q2 := fun m => ptc30 over pay c (.sl 1 x) ho hp hc hxf m
  have q3 := fun m => lim12 pay c (.sl 1 x) hp hc hxf m
  obtain ⟨L, hL⟩ : ∃ L, limS pay c.cap c.floor = L := ⟨_, rfl⟩
  rw [hL] at hl0 hl1 q1 q2 q3
  simp only [i64, cfD]
  refine callT_of k10_ok k10_name (Z.T hmix ?_)
  simp only [k10, k10c, zc, Tm.part, Nat.reduceLeDiff, Nat.reduceLT, Int.reduceLE, Int.reduceToNat, Nat.reducePow, Int.reducePow, D.upd, splice, buildD, bound, sliceD, zz, leaves, undef, pin, Int.reduceLT, C.lps, C.isLoop, bsliceD, contents, gate, evalI, St.ev, St.put, List.replicate, Nat.reduceSub, Nat.reduceAdd, binJ, lenOfD, ressD, resD, D.ok, D.cells, one, reduceCtorEq, Nat.reduceEqDiff, Int.reduceEq]
  refine callX_eq (sm23 c x hx _) ?_
  by_cases hs : x.length ≤ 70
  · simp only [zz, leaves, undef, pin, Int.reduceLT, C.lps, C.isLoop, bsliceD, contents, gate, evalI, St.ev, St.put, List.replicate, Nat.reduceSub, Nat.reduceAdd, binJ, lenOfD, ressD, resD, D.ok, D.cells, one, reduceCtorEq, Nat.reduceEqDiff, Int.reduceEq, zc, Tm.part, Nat.reduceLeDiff, Nat.reduceLT, Int.reduceLE, Int.reduceToNat, Nat.reducePow, Int.reducePow, D.upd, splice, buildD, bound, sliceD, hs]
    refine callX_eq (q1 _) ?_
    unfold ptcS
    by_cases h1 : over < 1
    · rw [if_pos h1]
      simp only [zz, leaves, undef, pin, Int.reduceLT, C.lps, C.isLoop, bsliceD, contents, gate, evalI, St.ev, St.put, List.replicate, Nat.reduceSub, Nat.reduceAdd, binJ, lenOfD, ressD, resD, D.ok, D.cells, one, reduceCtorEq, Nat.reduceEqDiff, Int.reduceEq, zc, Tm.part, Nat.reduceLeDiff, Nat.reduceLT, Int.reduceLE, Int.reduceToNat, Nat.reducePow, Int.reducePow, D.upd, splice, buildD, bound, sliceD, ptcD, i64]
      refine callX_eq (q2 _) ?_
      unfold ptcS
      rw [if_pos h1]
      simp only [zz, leaves, undef, pin, Int.reduceLT, C.lps, C.isLoop, bsliceD, contents, gate, evalI, St.ev, St.put, List.replicate, Nat.reduceSub, Nat.reduceAdd, binJ, lenOfD, ressD, resD, D.ok, D.cells, one, reduceCtorEq, Nat.reduceEqDiff, Int.reduceEq, zc, Tm.part, Nat.reduceLeDiff, Nat.reduceLT, Int.reduceLE, Int.reduceToNat, Nat.reducePow, Int.reducePow, D.upd, splice, buildD, bound, sliceD, ptcD, i64]
      refine callX_eq (awake40 _) ?_
      simp only [zz, leaves, undef, pin, Int.reduceLT, C.lps, C.isLoop, bsliceD, contents, gate, evalI, St.ev, St.put, List.replicate, Nat.reduceSub, Nat.reduceAdd, binJ, lenOfD, ressD, resD, D.ok, D.cells, one, reduceCtorEq, Nat.reduceEqDiff, Int.reduceEq]
    · by_cases h2 : L < 1
      · rw [if_neg h1, if_pos h2]
        simp only [zz, leaves, undef, pin, Int.reduceLT, C.lps, C.isLoop, bsliceD, contents, gate, evalI, St.ev, St.put, List.replicate, Nat.reduceSub, Nat.reduceAdd, binJ, lenOfD, ressD, resD, D.ok, D.cells, one, reduceCtorEq, Nat.reduceEqDiff, Int.reduceEq, zc, Tm.part, Nat.reduceLeDiff, Nat.reduceLT, Int.reduceLE, Int.reduceToNat, Nat.reducePow, Int.reducePow, D.upd, splice, buildD, bound, sliceD, ptcD, i64]
        refine callX_eq (q2 _) ?_
        unfold ptcS
        rw [if_neg h1, if_pos h2]
        simp only [zz, leaves, undef, pin, Int.reduceLT, C.lps, C.isLoop, bsliceD, contents, gate, evalI, St.ev, St.put, List.replicate, Nat.reduceSub, Nat.reduceAdd, binJ, lenOfD, ressD, resD, D.ok, D.cells, one, reduceCtorEq, Nat.reduceEqDiff, Int.reduceEq, zc, Tm.part, Nat.reduceLeDiff, Nat.reduceLT, Int.reduceLE, Int.reduceToNat, Nat.reducePow, Int.reducePow, D.upd, splice, buildD, bound, sliceD, ptcD, i64]
        refine callX_eq (awake40 _) ?_
        simp only [zz, leaves, undef, pin, Int.reduceLT, C.lps, C.isLoop, bsliceD, contents, gate, evalI, St.ev, St.put, List.replicate, Nat.reduceSub, Nat.reduceAdd, binJ, lenOfD, ressD, resD, D.ok, D.cells, one, reduceCtorEq, Nat.reduceEqDiff, Int.reduceEq]
      · rw [if_neg h1, if_neg h2]
        simp only [zz, leaves, undef, pin, Int.reduceLT, C.lps, C.isLoop, bsliceD, contents, gate, evalI, St.ev, St.put, List.replicate, Nat.reduceSub, Nat.reduceAdd, binJ, lenOfD, ressD, resD, D.ok, D.cells, one, reduceCtorEq, Nat.reduceEqDiff, Int.reduceEq, zc, Tm.part, Nat.reduceLeDiff, Nat.reduceLT, Int.reduceLE, Int.reduceToNat, Nat.reducePow, Int.reducePow, D.upd, splice, buildD, bound, sliceD, ptcD, i64]
        refine callX_eq (q2 _) ?_
        unfold ptcS
        rw [if_neg h1, if_neg h2]
        have hq := Int.ediv_nonneg (a := over - 1) (b := L) (by omega) (by omega)
        have hd := Int.mul_ediv_add_emod (over - 1) L
        have hm1 := Int.emod_lt_of_pos (over - 1) (show 0 < L by omega)
        have hm0 := Int.emod_nonneg (over - 1) (show L ≠ 0 by omega)
        have k1 : ¬ (over - 1) / L + 1 < 1 := by omega
        by_cases h3 : 1099511627776 < over
        · simp only [zz, leaves, undef, pin, Int.reduceLT, C.lps, C.isLoop, bsliceD, contents, gate, evalI, St.ev, St.put, List.replicate, Nat.reduceSub, Nat.reduceAdd, binJ, lenOfD, ressD, resD, D.ok, D.cells, one, reduceCtorEq, Nat.reduceEqDiff, Int.reduceEq, zc, Tm.part, Nat.reduceLeDiff, Nat.reduceLT, Int.reduceLE, Int.reduceToNat, Nat.reducePow, Int.reducePow, D.upd, splice, buildD, bound, sliceD, ptcD, i64, k1, h3]
          refine callX_eq (awake40 _) ?_
          simp only [zz, leaves, undef, pin, Int.reduceLT, C.lps, C.isLoop, bsliceD, contents, gate, evalI, St.ev, St.put, List.replicate, Nat.reduceSub, Nat.reduceAdd, binJ, lenOfD, ressD, resD, D.ok, D.cells, one, reduceCtorEq, Nat.reduceEqDiff, Int.reduceEq]
        · have k2 : (0 : Int) < L := by omega
          have hb := Int.ediv_le_self L (show 0 ≤ over - 1 by omega)
          simp only [zz, leaves, undef, pin, Int.reduceLT, C.lps, C.isLoop, bsliceD, contents, gate, evalI, St.ev, St.put, List.replicate, Nat.reduceSub, Nat.reduceAdd, binJ, lenOfD, ressD, resD, D.ok, D.cells, one, reduceCtorEq, Nat.reduceEqDiff, Int.reduceEq, zc, Tm.part, Nat.reduceLeDiff, Nat.reduceLT, Int.reduceLE, Int.reduceToNat, Nat.reducePow, Int.reducePow, D.upd, splice, buildD, bound, sliceD, ptcD, i64, k1, h3]
          refine callX_eq (q3 _) ?_
          generalize (over - 1) / L = q at *
          rw [Int.mul_comm] at hd
          have w1 : wrapF .i64 (q + 1 - 1) = q := by rw [wrapI (by omega)]; omega
          have w2 : wrapF .i64 (q * L) = q * L := wrapI (by
            have : 0 ≤ q * L := Int.mul_nonneg hq (by omega)
            omega)
          have k3 : q * L < over := by omega
          have hqL : 0 ≤ q * L := Int.mul_nonneg hq (by omega)
          have w3 : wrapF .i64 (over - q * L) = over - q * L := wrapI (by unfold ok64 at ho; omega)
          have k4 : over - q * L ≤ L := by omega
          simp only [zz, leaves, undef, pin, Int.reduceLT, C.lps, C.isLoop, bsliceD, contents, gate, evalI, St.ev, St.put, List.replicate, Nat.reduceSub, Nat.reduceAdd, binJ, lenOfD, ressD, resD, D.ok, D.cells, one, reduceCtorEq, Nat.reduceEqDiff, Int.reduceEq, zc, Tm.part, Nat.reduceLeDiff, Nat.reduceLT, Int.reduceLE, Int.reduceToNat, Nat.reducePow, Int.reducePow, D.upd, splice, buildD, bound, sliceD, i64, k2, w1, w2, k3, w3, k4]
          refine callX_eq (awake40 _) ?_
          simp only [zz, leaves, undef, pin, Int.reduceLT, C.lps, C.isLoop, bsliceD, contents, gate, evalI, St.ev, St.put, List.replicate, Nat.reduceSub, Nat.reduceAdd, binJ, lenOfD, ressD, resD, D.ok, D.cells, one, reduceCtorEq, Nat.reduceEqDiff, Int.reduceEq]
  · simp only [zz, leaves, undef, pin, Int.reduceLT, C.lps, C.isLoop, bsliceD, contents, gate, evalI, St.ev, St.put, List.replicate, Nat.reduceSub, Nat.reduceAdd, binJ, lenOfD, ressD, resD, D.ok, D.cells, one, reduceCtorEq, Nat.reduceEqDiff, Int.reduceEq, zc, Tm.part, Nat.reduceLeDiff, Nat.reduceLT, Int.reduceLE, Int.reduceToNat, Nat.reducePow, Int.reducePow, D.upd, splice, buildD, bound, sliceD, hs]
    refine callX_eq (awake40 _) ?_
    simp only [zz, leaves, undef, pin, Int.reduceLT, C.lps, C.isLoop, bsliceD, contents, gate, evalI, St.ev, St.put, List.replicate, Nat.reduceSub, Nat.reduceAdd, binJ, lenOfD, ressD, resD, D.ok, D.cells, one, reduceCtorEq, Nat.reduceEqDiff, Int.reduceEq]
end Go.Proofs.Ytlfhdejlpnljbaa
