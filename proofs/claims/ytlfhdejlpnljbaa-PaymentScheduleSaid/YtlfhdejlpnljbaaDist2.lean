/-
  The reference's distribute, and both Plan and Repay.
-/
import Derived.Test.YtlfhdejlpnljbaaDist
set_option linter.unusedSimpArgs false
set_option linter.unusedVariables false
set_option maxHeartbeats 2000000
namespace Go.Proofs.Ytlfhdejlpnljbaa
open Go.Tm
set_option maxRecDepth 10000

/-- Is the month among the stayed ones. -/
def stOf (l : List Int) (n : Int) : Bool := decide (n ∈ l)

theorem cont43 (l : List Int) (n : Int) (hl : l.length < 2 ^ 62) (m : List Ent) : CallT Try.prog 43 [.sl 1 (i64s l), .v (.int .i64 n)] m fun d m' => d = .v (.bool (stOf l n)) ∧ m' = m := by
  have key : CallT Try.prog 43 [.sl 1 (i64s l), .v (.int .i64 n)] [] fun d m' => d = .v (.bool (stOf l n)) := by
    refine callT_of k43_ok k43_name (Z.T hmix ?_)
    simp only [k43, k43c, zz, leaves, undef, pin, Int.reduceLT, C.lps, C.isLoop, bsliceD, contents, gate, evalI, St.ev, St.put, List.replicate, Nat.reduceSub, Nat.reduceAdd, binJ, lenOfD, ressD, resD, D.ok, D.cells, one, reduceCtorEq, Nat.reduceEqDiff, Int.reduceEq]
    refine T.blkM (X := Nat) (fun i => ⟨[.sl 1 (i64s l), .v (.int .i64 n), .dead, .dead, .dead, .v (.int .i64 i), .dead, .dead, .dead, .dead, .dead, .dead, .dead, .dead, .dead, .dead, .dead, .dead], []⟩)
      (fun i => i ≤ l.length ∧ n ∉ l.take i) (fun _ => n ∉ l) (fun i => l.length - i) 0 ⟨Nat.zero_le _, by simp⟩ ?_ ?_ ?_ (fun _ => by repeat (first | exact stab_S | exact stab_C | exact stab_I | exact stab_M | refine stab_B ?_)) ?_
    · exact At.same _ _ _ (by repeat (first | exact Subs.refl' _ | refine Subs.cons (Sub.refl _) ?_ | refine Subs.cons (Sub.toDead _) ?_))
    · intro i hi
      exact ⟨by simp, by simp [Ent.below, belows, below, belows_free, below_free, belowsApp, i64s_free], by simp⟩
    · rintro i ⟨hi, hn⟩
      refine Z.T hmix ?_
      rcases Nat.lt_or_ge i l.length with h | h
      · by_cases c : l[i] = n
        · have hs : stOf l n = true := decide_eq_true (c ▸ List.getElem_mem h)
          simp only [zz, leaves, undef, pin, Int.reduceLT, C.lps, C.isLoop, bsliceD, contents, gate, evalI, St.ev, St.put, List.replicate, Nat.reduceSub, Nat.reduceAdd, binJ, lenOfD, ressD, resD, D.ok, D.cells, one, reduceCtorEq, Nat.reduceEqDiff, Int.reduceEq, zc, Tm.part, Nat.reduceLeDiff, Nat.reduceLT, Int.reduceLE, Int.reduceToNat, Nat.reducePow, Int.reducePow, D.upd, splice, buildD, bound, sliceD, i64s_len, natlt, h, i64s_get h, c, hs]
        · simp only [zz, leaves, undef, pin, Int.reduceLT, C.lps, C.isLoop, bsliceD, contents, gate, evalI, St.ev, St.put, List.replicate, Nat.reduceSub, Nat.reduceAdd, binJ, lenOfD, ressD, resD, D.ok, D.cells, one, reduceCtorEq, Nat.reduceEqDiff, Int.reduceEq, zc, Tm.part, Nat.reduceLeDiff, Nat.reduceLT, Int.reduceLE, Int.reduceToNat, Nat.reducePow, Int.reducePow, D.upd, splice, buildD, bound, sliceD, i64s_len, natlt, h, i64s_get h, c, wrapSu i (by omega)]
          refine ⟨i + 1, ⟨h, ?_⟩, by show l.length - (i + 1) < l.length - i; omega, At.same _ _ _ (by repeat (first | exact Subs.refl' _ | refine Subs.cons (Sub.refl _) ?_ | refine Subs.cons (Sub.toDead _) ?_))⟩
          rw [List.take_succ_eq_append_getElem h, List.mem_append, List.mem_singleton]
          exact fun hh => hh.elim hn fun e => c e.symm
      · obtain rfl : i = l.length := by omega
        rw [List.take_length] at hn
        simp only [zz, leaves, undef, pin, Int.reduceLT, C.lps, C.isLoop, bsliceD, contents, gate, evalI, St.ev, St.put, List.replicate, Nat.reduceSub, Nat.reduceAdd, binJ, lenOfD, ressD, resD, D.ok, D.cells, one, reduceCtorEq, Nat.reduceEqDiff, Int.reduceEq, zc, Tm.part, Nat.reduceLeDiff, Nat.reduceLT, Int.reduceLE, Int.reduceToNat, Nat.reducePow, Int.reducePow, D.upd, splice, buildD, bound, sliceD, i64s_len, natlt, Nat.lt_irrefl]
        exact ⟨_, hn, At.same _ _ _ (by repeat (first | exact Subs.refl' _ | refine Subs.cons (Sub.refl _) ?_ | refine Subs.cons (Sub.toDead _) ?_))⟩
    · intro i hn
      have hs : stOf l n = false := decide_eq_false hn
      simp only [zz, leaves, undef, pin, Int.reduceLT, C.lps, C.isLoop, bsliceD, contents, gate, evalI, St.ev, St.put, List.replicate, Nat.reduceSub, Nat.reduceAdd, binJ, lenOfD, ressD, resD, D.ok, D.cells, one, reduceCtorEq, Nat.reduceEqDiff, Int.reduceEq]
      refine Z.T hmix ?_
      simp only [zz, leaves, undef, pin, Int.reduceLT, C.lps, C.isLoop, bsliceD, contents, gate, evalI, St.ev, St.put, List.replicate, Nat.reduceSub, Nat.reduceAdd, binJ, lenOfD, ressD, resD, D.ok, D.cells, one, reduceCtorEq, Nat.reduceEqDiff, Int.reduceEq, hs]
  exact (callP_of (R := fun d => d = .v (.bool (stOf l n))) 3 (by simp [idfrees, idfree, i64s_free]) (key.mono fun _ _ h => by rw [h]; rfl) m).mono fun _ _ h => ⟨h.1.1, h.2⟩

theorem distR (l : List Ba) (rest kind date : Int) (stayed : List Int) (hl : l.length < 2 ^ 40) (hs : stayed.length < 2 ^ 62) (hR : ok64 rest) :
    CallT Try.prog 38 [basD l, i64 rest, i64 date, i64 kind, .sl 1 (i64s stayed)] [] fun d m' => ∃ v, d = .tup [.own 0 v, i64 (dist (stOf stayed) date kind l rest).2] ∧ m' = [.live 4 v ((dist (stOf stayed) date kind l rest).1.map psD)] := by
  unfold ok64 at hR
  obtain ⟨st, hst⟩ : ∃ st, stOf stayed = st := ⟨_, rfl⟩
  rw [hst]
  simp only [basD, i64]
  refine callT_of k38_ok k38_name ?_
  simp only [k38, k38c]
  refine T.clo ?_
  refine T.seqS (Z.T hmix ?_)
  simp only [zc, Tm.part, Nat.reduceLeDiff, Nat.reduceLT, Int.reduceLE, Int.reduceToNat, Nat.reducePow, Int.reducePow, D.upd, splice, buildD, bound, sliceD, zz, leaves, undef, pin, Int.reduceLT, C.lps, C.isLoop, bsliceD, contents, gate, evalI, St.ev, St.put, List.replicate, Nat.reduceSub, Nat.reduceAdd, binJ, lenOfD, ressD, resD, D.ok, D.cells, one, reduceCtorEq, Nat.reduceEqDiff, Int.reduceEq]
  refine T.seqS (Z.T hmix ?_)
  simp only [zc, Tm.part, Nat.reduceLeDiff, Nat.reduceLT, Int.reduceLE, Int.reduceToNat, Nat.reducePow, Int.reducePow, D.upd, splice, buildD, bound, sliceD, zz, leaves, undef, pin, Int.reduceLT, C.lps, C.isLoop, bsliceD, contents, gate, evalI, St.ev, St.put, List.replicate, Nat.reduceSub, Nat.reduceAdd, binJ, lenOfD, ressD, resD, D.ok, D.cells, one, reduceCtorEq, Nat.reduceEqDiff, Int.reduceEq]
  refine T.adopt 12 4 rfl ?_
  refine Z.T hmix ?_
  simp only [zz, leaves, undef, pin, Int.reduceLT, C.lps, C.isLoop, bsliceD, contents, gate, evalI, St.ev, St.put, List.replicate, Nat.reduceSub, Nat.reduceAdd, binJ, lenOfD, ressD, resD, D.ok, D.cells, one, reduceCtorEq, Nat.reduceEqDiff, Int.reduceEq, zc, Tm.part, Nat.reduceLeDiff, Nat.reduceLT, Int.reduceLE, Int.reduceToNat, Nat.reducePow, Int.reducePow, D.upd, splice, buildD, bound, sliceD, List.length_map]
  refine T.blkM (X := Nat) (fun i => ⟨[.sl 4 (l.map baD), .v (.int .i64 (dsti st date kind l rest i).2), .v (.int .i64 date), .v (.int .i64 kind), .sl 1 (i64s stayed), .dead, .dead, .dead, .dead, .dead, .dead, .dead, .own 0 (dsti st date kind l rest i).1.length, .v (.int .i64 i), .dead, .dead, .dead, .dead, .dead, .dead, .dead, .dead, .dead, .dead, .dead, .dead, .dead, .dead, .dead, .dead, .dead, .dead, .dead, .dead, .dead, .dead, .dead, .dead, .dead, .dead, .dead, .dead, .dead, .dead, .dead, .dead, .dead, .dead, .dead, .dead, .dead, .dead, .dead, .dead, .dead, .dead, .dead, .dead, .dead, .dead], [.live 4 (dsti st date kind l rest i).1.length ((dsti st date kind l rest i).1.map psD)]⟩)
    (fun i => i ≤ l.length) (fun i => i ≤ l.length ∧ dist st date kind l rest = dsti st date kind l rest i) (fun i => l.length - i) 0 (Nat.zero_le _) ?_ ?_ ?_ (fun _ => by repeat (first | exact stab_S | exact stab_C | exact stab_I | exact stab_M | refine stab_B ?_)) ?_
  · exact At.same _ _ _ (by repeat (first | exact Subs.refl' _ | refine Subs.cons (Sub.refl _) ?_ | refine Subs.cons (Sub.toDead _) ?_))
  · intro i hi
    exact ⟨by simp, by simp [belows, below, belows_free, bas_free, i64s_free], by simp [Ent.below, belows_free, pss_free]⟩
  · intro i hi
    refine Z.T hmix ?_
    have hr := dsti_rest st date kind l rest hR.1 i
    have hln := dsti_len st date kind l rest i hi
    rcases Nat.lt_or_ge i l.length with h | h
    · have hs := dsti_succ (st := st) (date := date) (kind := kind) (rest := rest) h
      have he := @dsti_end st date kind l rest i
      obtain ⟨p, hp⟩ : ∃ p, dsti st date kind l rest i = p := ⟨_, rfl⟩
      rw [hp] at hs he hr hln
      by_cases c : p.2 ≤ 0
      · have c' : ¬ (0 : Int) < p.2 := by omega
        simp only [hp, zz, leaves, undef, pin, Int.reduceLT, C.lps, C.isLoop, bsliceD, contents, gate, evalI, St.ev, St.put, List.replicate, Nat.reduceSub, Nat.reduceAdd, binJ, lenOfD, ressD, resD, D.ok, D.cells, one, reduceCtorEq, Nat.reduceEqDiff, Int.reduceEq, zc, Tm.part, Nat.reduceLeDiff, Nat.reduceLT, Int.reduceLE, Int.reduceToNat, Nat.reducePow, Int.reducePow, D.upd, splice, buildD, bound, sliceD, List.length_map, natlt, h, c']
        exact ⟨i, ⟨hi, by rw [hp]; exact he c⟩, by rw [hp]; exact At.same _ _ _ (by repeat (first | exact Subs.refl' _ | refine Subs.cons (Sub.refl _) ?_ | refine Subs.cons (Sub.toDead _) ?_))⟩
      · have c' : (0 : Int) < p.2 := by omega
        simp only [hp, zz, leaves, undef, pin, Int.reduceLT, C.lps, C.isLoop, bsliceD, contents, gate, evalI, St.ev, St.put, List.replicate, Nat.reduceSub, Nat.reduceAdd, binJ, lenOfD, ressD, resD, D.ok, D.cells, one, reduceCtorEq, Nat.reduceEqDiff, Int.reduceEq, zc, Tm.part, Nat.reduceLeDiff, Nat.reduceLT, Int.reduceLE, Int.reduceToNat, Nat.reducePow, Int.reducePow, D.upd, splice, buildD, bound, sliceD, List.length_map, natlt, h, c', bas_get h, zm]
        refine callX_eq (ov21 _ _) ?_
        by_cases c2 : ovW l[i] ≤ 0
        · have hs' : dstep st date kind p l[i] = p := if_pos (.inr (.inl c2))
          have c2' : min (ovW l[i]) p.2 < 1 := by omega
          simp only [zz, leaves, undef, pin, Int.reduceLT, C.lps, C.isLoop, bsliceD, contents, gate, evalI, St.ev, St.put, List.replicate, Nat.reduceSub, Nat.reduceAdd, binJ, lenOfD, ressD, resD, D.ok, D.cells, one, reduceCtorEq, Nat.reduceEqDiff, Int.reduceEq, zc, Tm.part, Nat.reduceLeDiff, Nat.reduceLT, Int.reduceLE, Int.reduceToNat, Nat.reducePow, Int.reducePow, D.upd, splice, buildD, bound, sliceD, i64, c2', zm, wrapSu i (by omega)]
          exact ⟨i + 1, h, by omega, by rw [hs, hs']; exact At.cut 1 (by repeat (first | exact Subs.refl' _ | refine Subs.cons (Sub.refl _) ?_ | refine Subs.cons (Sub.toDead _) ?_)) rfl⟩
        · have c2' : ¬ min (ovW l[i]) p.2 < 1 := by omega
          simp only [zz, leaves, undef, pin, Int.reduceLT, C.lps, C.isLoop, bsliceD, contents, gate, evalI, St.ev, St.put, List.replicate, Nat.reduceSub, Nat.reduceAdd, binJ, lenOfD, ressD, resD, D.ok, D.cells, one, reduceCtorEq, Nat.reduceEqDiff, Int.reduceEq, zc, Tm.part, Nat.reduceLeDiff, Nat.reduceLT, Int.reduceLE, Int.reduceToNat, Nat.reducePow, Int.reducePow, D.upd, splice, buildD, bound, sliceD, i64, c2', zm, natlt, h, bas_get h]
          refine callX_eq (cont43 stayed l[i].m (by omega) _) ?_
          rw [hst]
          by_cases c3 : st l[i].m = true
          · have hs' : dstep st date kind p l[i] = p := if_pos (.inr (.inr c3))
            simp only [zz, leaves, undef, pin, Int.reduceLT, C.lps, C.isLoop, bsliceD, contents, gate, evalI, St.ev, St.put, List.replicate, Nat.reduceSub, Nat.reduceAdd, binJ, lenOfD, ressD, resD, D.ok, D.cells, one, reduceCtorEq, Nat.reduceEqDiff, Int.reduceEq, zc, Tm.part, Nat.reduceLeDiff, Nat.reduceLT, Int.reduceLE, Int.reduceToNat, Nat.reducePow, Int.reducePow, D.upd, splice, buildD, bound, sliceD, c3, wrapSu i (by omega)]
            exact ⟨i + 1, h, by omega, by rw [hs, hs']; exact At.cut 1 (by repeat (first | exact Subs.refl' _ | refine Subs.cons (Sub.refl _) ?_ | refine Subs.cons (Sub.toDead _) ?_)) rfl⟩
          · have hs' : dstep st date kind p l[i] = (p.1 ++ [⟨date, l[i].m, kind, min (ovW l[i]) p.2⟩], p.2 - min (ovW l[i]) p.2) := if_neg (by simp only [not_or]; exact ⟨c, c2, c3⟩)
            have hcap : (p.1.length + 1) * 32 ≤ 140737488355328 := by omega
            have hw : wrapF .i64 (p.2 - min (ovW l[i]) p.2) = p.2 - min (ovW l[i]) p.2 := wrapI (by omega)
            simp only [Bool.not_eq_true] at c3
            simp only [zz, leaves, undef, pin, Int.reduceLT, C.lps, C.isLoop, bsliceD, contents, gate, evalI, St.ev, St.put, List.replicate, Nat.reduceSub, Nat.reduceAdd, binJ, lenOfD, ressD, resD, D.ok, D.cells, one, reduceCtorEq, Nat.reduceEqDiff, Int.reduceEq, zc, Tm.part, Nat.reduceLeDiff, Nat.reduceLT, Int.reduceLE, Int.reduceToNat, Nat.reducePow, Int.reducePow, D.upd, splice, buildD, bound, sliceD, i64, c2, c3, zm, List.length_map, bas_get h, natlt, h, hcap, hw, wrapSu i (by omega)]
            refine ⟨i + 1, h, by omega, ?_⟩
            rw [hs, hs']
            refine At.cut 1 ?_ ?_
            · simp only [List.length_append, List.length_cons, List.length_nil, Nat.zero_add]
              repeat (first | exact Subs.refl' _ | refine Subs.cons (Sub.refl _) ?_ | refine Subs.cons (Sub.toDead _) ?_)
            · simp only [List.map_append, List.map_cons, List.map_nil, List.length_append, List.length_cons, List.length_nil, Nat.zero_add]
              rfl
    · obtain rfl : i = l.length := by omega
      simp only [zz, leaves, undef, pin, Int.reduceLT, C.lps, C.isLoop, bsliceD, contents, gate, evalI, St.ev, St.put, List.replicate, Nat.reduceSub, Nat.reduceAdd, binJ, lenOfD, ressD, resD, D.ok, D.cells, one, reduceCtorEq, Nat.reduceEqDiff, Int.reduceEq, zc, Tm.part, Nat.reduceLeDiff, Nat.reduceLT, Int.reduceLE, Int.reduceToNat, Nat.reducePow, Int.reducePow, D.upd, splice, buildD, bound, sliceD, List.length_map, natlt, Nat.lt_irrefl]
      exact ⟨l.length, ⟨Nat.le_refl _, dsti_all (Nat.le_refl _)⟩, At.same _ _ _ (by repeat (first | exact Subs.refl' _ | refine Subs.cons (Sub.refl _) ?_ | refine Subs.cons (Sub.toDead _) ?_))⟩
  · rintro i ⟨hi, he⟩
    simp only [zz, leaves, undef, pin, Int.reduceLT, C.lps, C.isLoop, bsliceD, contents, gate, evalI, St.ev, St.put, List.replicate, Nat.reduceSub, Nat.reduceAdd, binJ, lenOfD, ressD, resD, D.ok, D.cells, one, reduceCtorEq, Nat.reduceEqDiff, Int.reduceEq]
    refine Z.T hmix ?_
    simp only [zz, leaves, undef, pin, Int.reduceLT, C.lps, C.isLoop, bsliceD, contents, gate, evalI, St.ev, St.put, List.replicate, Nat.reduceSub, Nat.reduceAdd, binJ, lenOfD, ressD, resD, D.ok, D.cells, one, reduceCtorEq, Nat.reduceEqDiff, Int.reduceEq, he]
    refine Clo.of ?_
    simp only [zz, leaves, undef, pin, Int.reduceLT, C.lps, C.isLoop, bsliceD, contents, gate, evalI, St.ev, St.put, List.replicate, Nat.reduceSub, Nat.reduceAdd, binJ, lenOfD, ressD, resD, D.ok, D.cells, one, reduceCtorEq, Nat.reduceEqDiff, Int.reduceEq]
    exact ⟨_, rfl, rfl⟩

theorem distRP (l : List Ba) (rest kind date : Int) (stayed : List Int) (hl : l.length < 2 ^ 40) (hs : stayed.length < 2 ^ 62) (hR : ok64 rest) (m : List Ent) :
    CallT Try.prog 38 [basD l, i64 rest, i64 date, i64 kind, .sl 1 (i64s stayed)] m fun d m' => d = .tup [pssD (dist (stOf stayed) date kind l rest).1, i64 (dist (stOf stayed) date kind l rest).2] ∧ m' = m :=
  (callP_of (R := fun d => d = .tup [pssD (dist (stOf stayed) date kind l rest).1, i64 (dist (stOf stayed) date kind l rest).2]) 5 (by simp [idfrees, idfree, basD, bas_free, i64, i64s_free])
    ((distR l rest kind date stayed hl hs hR).mono fun d m' h => by
      obtain ⟨v, rfl, rfl⟩ := h
      rw [froz_tup]
      simp only [List.map_cons, List.map_nil]
      rw [froz_own rfl (pss_free _)]
      rfl) m).mono fun _ _ h => ⟨h.1.1, h.2⟩
end Go.Proofs.Ytlfhdejlpnljbaa
