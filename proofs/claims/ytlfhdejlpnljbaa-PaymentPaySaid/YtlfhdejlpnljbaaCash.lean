/-
  PaymentCash, on trees.
-/
import Derived.Test.YtlfhdejlpnljbaaBase
import Derived.Test.YtlfhdejlpnljbaaAwk40
set_option linter.unusedSimpArgs false
set_option linter.unusedVariables false
set_option maxHeartbeats 2000000
namespace Go.Proofs.Ytlfhdejlpnljbaa
open Go.Tm
set_option maxRecDepth 10000

/-- Cash so far, and one posting more. -/
def cash1 (s : Int) (p : Ps) : Int := if p.k = 1 then wrapF .i64 (s + p.c) else if p.k = 2 then wrapF .i64 (s - p.c) else s
def cashS (l : List Ps) : Int := l.foldl cash1 0

theorem cash27 (l : List Ps) (hl : l.length < 2 ^ 62) : CallT Try.prog 27 [pssD l] [] fun d m' => d = i64 (cashS l) := by
  simp only [pssD]
  refine callT_of k27_ok k27_name (Z.T hmix ?_)
  simp only [k27, k27c, List.length_map, zz, leaves, undef, pin, Int.reduceLT, C.lps, C.isLoop, bsliceD, contents, gate, evalI, St.ev, St.put, List.replicate, Nat.reduceSub, Nat.reduceAdd, binJ, lenOfD, ressD, resD, D.ok, D.cells, one, reduceCtorEq, Nat.reduceEqDiff, Int.reduceEq]
  refine T.blkI l.length (fun i => ⟨[.dead, .dead, .dead, .v (.int .i64 ((l.take i).foldl cash1 0)), .dead, .dead, .sl 4 (l.map psD), .v (.int .i64 l.length), .v (.int .i64 i), .dead, .dead, .dead, .dead, .dead, .dead, .dead, .dead, .dead, .dead, .dead, .dead, .dead, .dead, .dead, .dead, .dead, .dead, .dead], []⟩) ?_ ?_ ?_ (by repeat (first | exact stab_S | exact stab_C | exact stab_I | exact stab_M | refine stab_B ?_)) ?_
  · exact At.same _ _ _ (by repeat (first | exact Subs.refl' _ | refine Subs.cons (Sub.refl _) ?_ | refine Subs.cons (Sub.toDead _) ?_))
  · intro i hi
    exact ⟨by simp, by simp [Ent.below, belows, below, belows_free, below_free, belowsApp, pss_free], by simp⟩
  · intro i hi
    refine Z.T hmix ?_
    rcases Nat.lt_or_ge i l.length with h | h
    · have hf := foldl_take cash1 0 l h
      by_cases h1 : l[i].k = 1
      · simp only [zz, leaves, undef, pin, Int.reduceLT, C.lps, C.isLoop, bsliceD, contents, gate, evalI, St.ev, St.put, List.replicate, Nat.reduceSub, Nat.reduceAdd, binJ, lenOfD, ressD, resD, D.ok, D.cells, one, reduceCtorEq, Nat.reduceEqDiff, Int.reduceEq, zc, Tm.part, Nat.reduceLeDiff, Nat.reduceLT, Int.reduceLE, Int.reduceToNat, Nat.reducePow, Int.reducePow, D.upd, splice, buildD, bound, sliceD, natlt, h, hf, cash1, pss_get h, wrapSu i (by omega), h1]
        exact At.cut 0 (by repeat (first | exact Subs.refl' _ | refine Subs.cons (Sub.refl _) ?_ | refine Subs.cons (Sub.toDead _) ?_)) rfl
      · by_cases h2 : l[i].k = 2
        · simp only [zz, leaves, undef, pin, Int.reduceLT, C.lps, C.isLoop, bsliceD, contents, gate, evalI, St.ev, St.put, List.replicate, Nat.reduceSub, Nat.reduceAdd, binJ, lenOfD, ressD, resD, D.ok, D.cells, one, reduceCtorEq, Nat.reduceEqDiff, Int.reduceEq, zc, Tm.part, Nat.reduceLeDiff, Nat.reduceLT, Int.reduceLE, Int.reduceToNat, Nat.reducePow, Int.reducePow, D.upd, splice, buildD, bound, sliceD, natlt, h, hf, cash1, pss_get h, wrapSu i (by omega), h2]
          exact At.cut 0 (by repeat (first | exact Subs.refl' _ | refine Subs.cons (Sub.refl _) ?_ | refine Subs.cons (Sub.toDead _) ?_)) rfl
        · simp only [zz, leaves, undef, pin, Int.reduceLT, C.lps, C.isLoop, bsliceD, contents, gate, evalI, St.ev, St.put, List.replicate, Nat.reduceSub, Nat.reduceAdd, binJ, lenOfD, ressD, resD, D.ok, D.cells, one, reduceCtorEq, Nat.reduceEqDiff, Int.reduceEq, zc, Tm.part, Nat.reduceLeDiff, Nat.reduceLT, Int.reduceLE, Int.reduceToNat, Nat.reducePow, Int.reducePow, D.upd, splice, buildD, bound, sliceD, natlt, h, hf, cash1, pss_get h, wrapSu i (by omega), h1, h2]
          exact At.cut 0 (by repeat (first | exact Subs.refl' _ | refine Subs.cons (Sub.refl _) ?_ | refine Subs.cons (Sub.toDead _) ?_)) rfl
    · obtain rfl : i = l.length := by omega
      simp only [zz, leaves, undef, pin, Int.reduceLT, C.lps, C.isLoop, bsliceD, contents, gate, evalI, St.ev, St.put, List.replicate, Nat.reduceSub, Nat.reduceAdd, binJ, lenOfD, ressD, resD, D.ok, D.cells, one, reduceCtorEq, Nat.reduceEqDiff, Int.reduceEq, zc, Tm.part, Nat.reduceLeDiff, Nat.reduceLT, Int.reduceLE, Int.reduceToNat, Nat.reducePow, Int.reducePow, D.upd, splice, buildD, bound, sliceD, natlt, Nat.lt_irrefl]
      exact At.same _ _ _ (by repeat (first | exact Subs.refl' _ | refine Subs.cons (Sub.refl _) ?_ | refine Subs.cons (Sub.toDead _) ?_))
  · simp only [zz, leaves, undef, pin, Int.reduceLT, C.lps, C.isLoop, bsliceD, contents, gate, evalI, St.ev, St.put, List.replicate, Nat.reduceSub, Nat.reduceAdd, binJ, lenOfD, ressD, resD, D.ok, D.cells, one, reduceCtorEq, Nat.reduceEqDiff, Int.reduceEq]
    refine Z.T hmix ?_
    simp only [zz, leaves, undef, pin, Int.reduceLT, C.lps, C.isLoop, bsliceD, contents, gate, evalI, St.ev, St.put, List.replicate, Nat.reduceSub, Nat.reduceAdd, binJ, lenOfD, ressD, resD, D.ok, D.cells, one, reduceCtorEq, Nat.reduceEqDiff, Int.reduceEq, List.take_length]
    rfl

theorem cash28 (l : List Ps) (hl : l.length < 2 ^ 62) : CallT Try.prog 28 [pssD l] [] fun d m' => d = i64 (cashS l) := by
  simp only [pssD]
  refine callT_of k28_ok k28_name (Z.T hmix ?_)
  simp only [k28, k28c, List.length_map, zz, leaves, undef, pin, Int.reduceLT, C.lps, C.isLoop, bsliceD, contents, gate, evalI, St.ev, St.put, List.replicate, Nat.reduceSub, Nat.reduceAdd, binJ, lenOfD, ressD, resD, D.ok, D.cells, one, reduceCtorEq, Nat.reduceEqDiff, Int.reduceEq]
  refine T.blkI l.length (fun i => ⟨[.sl 4 (l.map psD), .dead, .dead, .v (.int .i64 ((l.take i).foldl cash1 0)), .v (.int .i64 i), .dead, .dead, .dead, .dead, .dead, .dead, .dead, .dead, .dead, .dead, .dead, .dead, .dead, .dead, .dead, .dead, .dead, .dead, .dead, .dead, .dead, .dead, .dead, .dead, .dead, .dead, .dead, .dead, .dead, .dead, .dead, .dead, .dead], []⟩) ?_ ?_ ?_ (by repeat (first | exact stab_S | exact stab_C | exact stab_I | exact stab_M | refine stab_B ?_)) ?_
  · exact At.same _ _ _ (by repeat (first | exact Subs.refl' _ | refine Subs.cons (Sub.refl _) ?_ | refine Subs.cons (Sub.toDead _) ?_))
  · intro i hi
    exact ⟨by simp, by simp [Ent.below, belows, below, belows_free, below_free, belowsApp, pss_free], by simp⟩
  · intro i hi
    refine Z.T hmix ?_
    rcases Nat.lt_or_ge i l.length with h | h
    · have hf := foldl_take cash1 0 l h
      by_cases h1 : l[i].k = 1
      · simp only [zz, leaves, undef, pin, Int.reduceLT, C.lps, C.isLoop, bsliceD, contents, gate, evalI, St.ev, St.put, List.replicate, Nat.reduceSub, Nat.reduceAdd, binJ, lenOfD, ressD, resD, D.ok, D.cells, one, reduceCtorEq, Nat.reduceEqDiff, Int.reduceEq, zc, Tm.part, Nat.reduceLeDiff, Nat.reduceLT, Int.reduceLE, Int.reduceToNat, Nat.reducePow, Int.reducePow, D.upd, splice, buildD, bound, sliceD, natlt, h, hf, cash1, pss_get h, wrapSu i (by omega), h1, List.length_map]
        exact At.same _ _ _ (by repeat (first | exact Subs.refl' _ | refine Subs.cons (Sub.refl _) ?_ | refine Subs.cons (Sub.toDead _) ?_))
      · by_cases h2 : l[i].k = 2
        · simp only [zz, leaves, undef, pin, Int.reduceLT, C.lps, C.isLoop, bsliceD, contents, gate, evalI, St.ev, St.put, List.replicate, Nat.reduceSub, Nat.reduceAdd, binJ, lenOfD, ressD, resD, D.ok, D.cells, one, reduceCtorEq, Nat.reduceEqDiff, Int.reduceEq, zc, Tm.part, Nat.reduceLeDiff, Nat.reduceLT, Int.reduceLE, Int.reduceToNat, Nat.reducePow, Int.reducePow, D.upd, splice, buildD, bound, sliceD, natlt, h, hf, cash1, pss_get h, wrapSu i (by omega), h2, List.length_map]
          exact At.same _ _ _ (by repeat (first | exact Subs.refl' _ | refine Subs.cons (Sub.refl _) ?_ | refine Subs.cons (Sub.toDead _) ?_))
        · simp only [zz, leaves, undef, pin, Int.reduceLT, C.lps, C.isLoop, bsliceD, contents, gate, evalI, St.ev, St.put, List.replicate, Nat.reduceSub, Nat.reduceAdd, binJ, lenOfD, ressD, resD, D.ok, D.cells, one, reduceCtorEq, Nat.reduceEqDiff, Int.reduceEq, zc, Tm.part, Nat.reduceLeDiff, Nat.reduceLT, Int.reduceLE, Int.reduceToNat, Nat.reducePow, Int.reducePow, D.upd, splice, buildD, bound, sliceD, natlt, h, hf, cash1, pss_get h, wrapSu i (by omega), h1, h2, List.length_map]
          exact At.same _ _ _ (by repeat (first | exact Subs.refl' _ | refine Subs.cons (Sub.refl _) ?_ | refine Subs.cons (Sub.toDead _) ?_))
    · obtain rfl : i = l.length := by omega
      simp only [zz, leaves, undef, pin, Int.reduceLT, C.lps, C.isLoop, bsliceD, contents, gate, evalI, St.ev, St.put, List.replicate, Nat.reduceSub, Nat.reduceAdd, binJ, lenOfD, ressD, resD, D.ok, D.cells, one, reduceCtorEq, Nat.reduceEqDiff, Int.reduceEq, zc, Tm.part, Nat.reduceLeDiff, Nat.reduceLT, Int.reduceLE, Int.reduceToNat, Nat.reducePow, Int.reducePow, D.upd, splice, buildD, bound, sliceD, natlt, Nat.lt_irrefl, List.length_map]
      exact At.same _ _ _ (by repeat (first | exact Subs.refl' _ | refine Subs.cons (Sub.refl _) ?_ | refine Subs.cons (Sub.toDead _) ?_))
  · simp only [zz, leaves, undef, pin, Int.reduceLT, C.lps, C.isLoop, bsliceD, contents, gate, evalI, St.ev, St.put, List.replicate, Nat.reduceSub, Nat.reduceAdd, binJ, lenOfD, ressD, resD, D.ok, D.cells, one, reduceCtorEq, Nat.reduceEqDiff, Int.reduceEq]
    refine Z.T hmix ?_
    simp only [zz, leaves, undef, pin, Int.reduceLT, C.lps, C.isLoop, bsliceD, contents, gate, evalI, St.ev, St.put, List.replicate, Nat.reduceSub, Nat.reduceAdd, binJ, lenOfD, ressD, resD, D.ok, D.cells, one, reduceCtorEq, Nat.reduceEqDiff, Int.reduceEq, List.take_length]
    rfl

theorem cash27P (l : List Ps) (hl : l.length < 2 ^ 62) (m : List Ent) : CallT Try.prog 27 [pssD l] m fun d m' => d = i64 (cashS l) ∧ m' = m :=
  (callP_of (R := fun d => d = i64 (cashS l)) 3 (by simp [idfrees, idfree, pssD, pss_free]) ((cash27 l hl).mono fun _ _ h => by rw [h]; rfl) m).mono fun _ _ h => ⟨h.1.1, h.2⟩
theorem cash28P (l : List Ps) (hl : l.length < 2 ^ 62) (m : List Ent) : CallT Try.prog 28 [pssD l] m fun d m' => d = i64 (cashS l) ∧ m' = m :=
  (callP_of (R := fun d => d = i64 (cashS l)) 3 (by simp [idfrees, idfree, pssD, pss_free]) ((cash28 l hl).mono fun _ _ h => by rw [h]; rfl) m).mono fun _ _ h => ⟨h.1.1, h.2⟩

theorem lawCash (l : List Ps) (hl : l.length < 2 ^ 63) : CallT Try.prog 9 [pssD l] [] fun d _ => d = .v (.bool true) := by
  simp only [pssD]
  refine callT_of k9_ok k9_name (Z.T hmix ?_)
  simp only [k9, k9c, List.length_map, zz, leaves, undef, pin, Int.reduceLT, C.lps, C.isLoop, bsliceD, contents, gate, evalI, St.ev, St.put, List.replicate, Nat.reduceSub, Nat.reduceAdd, binJ, lenOfD, ressD, resD, D.ok, D.cells, one, reduceCtorEq, Nat.reduceEqDiff, Int.reduceEq]
  refine gP.mk (fun h => ?_) (fun h => ?_)
  · refine callX_eq (awake40 _) ?_
    simp only [zz, leaves, undef, pin, Int.reduceLT, C.lps, C.isLoop, bsliceD, contents, gate, evalI, St.ev, St.put, List.replicate, Nat.reduceSub, Nat.reduceAdd, binJ, lenOfD, ressD, resD, D.ok, D.cells, one, reduceCtorEq, Nat.reduceEqDiff, Int.reduceEq]
  · refine callX_eq (cash27P l (by omega) _) ?_
    simp only [zz, leaves, undef, pin, Int.reduceLT, C.lps, C.isLoop, bsliceD, contents, gate, evalI, St.ev, St.put, List.replicate, Nat.reduceSub, Nat.reduceAdd, binJ, lenOfD, ressD, resD, D.ok, D.cells, one, reduceCtorEq, Nat.reduceEqDiff, Int.reduceEq]
    refine callX_eq (cash28P l (by omega) _) ?_
    simp only [zz, leaves, undef, pin, Int.reduceLT, C.lps, C.isLoop, bsliceD, contents, gate, evalI, St.ev, St.put, List.replicate, Nat.reduceSub, Nat.reduceAdd, binJ, lenOfD, ressD, resD, D.ok, D.cells, one, reduceCtorEq, Nat.reduceEqDiff, Int.reduceEq, i64]
    refine callX_eq (awake40 _) ?_
    simp only [zz, leaves, undef, pin, Int.reduceLT, C.lps, C.isLoop, bsliceD, contents, gate, evalI, St.ev, St.put, List.replicate, Nat.reduceSub, Nat.reduceAdd, binJ, lenOfD, ressD, resD, D.ok, D.cells, one, reduceCtorEq, Nat.reduceEqDiff, Int.reduceEq]

theorem lawCashG (d : D) (h : LookV false (.sl 4 true shPs) d) : CallT Try.prog 9 [d] [] fun d _ => d = .v (.bool true) := by
  obtain ⟨l, hl, _, rfl⟩ := arg_pss h
  exact lawCash l hl
end Go.Proofs.Ytlfhdejlpnljbaa
