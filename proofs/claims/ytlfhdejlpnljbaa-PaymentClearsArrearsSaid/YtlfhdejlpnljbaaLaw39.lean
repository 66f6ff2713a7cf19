/-
  RecoveryPlan and RecoveryRepay, on trees.
-/
import Derived.Test.YtlfhdejlpnljbaaPlan
set_option linter.unusedSimpArgs false
set_option linter.unusedVariables false
set_option maxHeartbeats 2000000
namespace Go.Proofs.Ytlfhdejlpnljbaa
open Go.Tm
set_option maxRecDepth 10000

/-- Are all amounts of a balance at most n in absolute value. -/
def within (b : Ba) (n : Int) : Prop := (-n ≤ b.d ∧ b.d ≤ n) ∧ (-n ≤ b.r ∧ b.r ≤ n) ∧ (-n ≤ b.w ∧ b.w ≤ n)
instance (b : Ba) (n : Int) : Decidable (within b n) := by unfold within; infer_instance

theorem with36 (b : Ba) (n : Int) (hn : ok64 (-n)) (m : List Ent) : CallT Try.prog 36 [.agg [.v (.int .i64 b.m), .v (.int .i64 b.d), .v (.int .i64 b.r), .v (.int .i64 b.w)], .v (.int .i64 n)] m fun d m' => d = .v (.bool (decide (within b n))) ∧ m' = m := by
  have key : CallT Try.prog 36 [.agg [.v (.int .i64 b.m), .v (.int .i64 b.d), .v (.int .i64 b.r), .v (.int .i64 b.w)], .v (.int .i64 n)] [] fun d m' => d = .v (.bool (decide (within b n))) := by
    have w := hn.wrap
    by_cases c1 : -n ≤ b.d
    · by_cases c2 : b.d ≤ n
      · by_cases c3 : -n ≤ b.r
        · by_cases c4 : b.r ≤ n
          · by_cases c5 : -n ≤ b.w
            · by_cases c6 : b.w ≤ n
              · refine callT_of k36_ok k36_name (Z.T hmix ?_)
                simp only [k36, k36c, zc, Tm.part, Nat.reduceLeDiff, Nat.reduceLT, Int.reduceLE, Int.reduceToNat, Nat.reducePow, Int.reducePow, D.upd, splice, buildD, bound, sliceD, within, w, c1, c2, c3, c4, c5, c6, zz, leaves, undef, pin, Int.reduceLT, C.lps, C.isLoop, bsliceD, contents, gate, evalI, St.ev, St.put, List.replicate, Nat.reduceSub, Nat.reduceAdd, binJ, lenOfD, ressD, resD, D.ok, D.cells, one, reduceCtorEq, Nat.reduceEqDiff, Int.reduceEq]
              · refine callT_of k36_ok k36_name (Z.T hmix ?_)
                simp only [k36, k36c, zc, Tm.part, Nat.reduceLeDiff, Nat.reduceLT, Int.reduceLE, Int.reduceToNat, Nat.reducePow, Int.reducePow, D.upd, splice, buildD, bound, sliceD, within, w, c1, c2, c3, c4, c5, c6, zz, leaves, undef, pin, Int.reduceLT, C.lps, C.isLoop, bsliceD, contents, gate, evalI, St.ev, St.put, List.replicate, Nat.reduceSub, Nat.reduceAdd, binJ, lenOfD, ressD, resD, D.ok, D.cells, one, reduceCtorEq, Nat.reduceEqDiff, Int.reduceEq]
            · refine callT_of k36_ok k36_name (Z.T hmix ?_)
              simp only [k36, k36c, zc, Tm.part, Nat.reduceLeDiff, Nat.reduceLT, Int.reduceLE, Int.reduceToNat, Nat.reducePow, Int.reducePow, D.upd, splice, buildD, bound, sliceD, within, w, c1, c2, c3, c4, c5, zz, leaves, undef, pin, Int.reduceLT, C.lps, C.isLoop, bsliceD, contents, gate, evalI, St.ev, St.put, List.replicate, Nat.reduceSub, Nat.reduceAdd, binJ, lenOfD, ressD, resD, D.ok, D.cells, one, reduceCtorEq, Nat.reduceEqDiff, Int.reduceEq]
          · refine callT_of k36_ok k36_name (Z.T hmix ?_)
            simp only [k36, k36c, zc, Tm.part, Nat.reduceLeDiff, Nat.reduceLT, Int.reduceLE, Int.reduceToNat, Nat.reducePow, Int.reducePow, D.upd, splice, buildD, bound, sliceD, within, w, c1, c2, c3, c4, zz, leaves, undef, pin, Int.reduceLT, C.lps, C.isLoop, bsliceD, contents, gate, evalI, St.ev, St.put, List.replicate, Nat.reduceSub, Nat.reduceAdd, binJ, lenOfD, ressD, resD, D.ok, D.cells, one, reduceCtorEq, Nat.reduceEqDiff, Int.reduceEq]
        · refine callT_of k36_ok k36_name (Z.T hmix ?_)
          simp only [k36, k36c, zc, Tm.part, Nat.reduceLeDiff, Nat.reduceLT, Int.reduceLE, Int.reduceToNat, Nat.reducePow, Int.reducePow, D.upd, splice, buildD, bound, sliceD, within, w, c1, c2, c3, zz, leaves, undef, pin, Int.reduceLT, C.lps, C.isLoop, bsliceD, contents, gate, evalI, St.ev, St.put, List.replicate, Nat.reduceSub, Nat.reduceAdd, binJ, lenOfD, ressD, resD, D.ok, D.cells, one, reduceCtorEq, Nat.reduceEqDiff, Int.reduceEq]
      · refine callT_of k36_ok k36_name (Z.T hmix ?_)
        simp only [k36, k36c, zc, Tm.part, Nat.reduceLeDiff, Nat.reduceLT, Int.reduceLE, Int.reduceToNat, Nat.reducePow, Int.reducePow, D.upd, splice, buildD, bound, sliceD, within, w, c1, c2, zz, leaves, undef, pin, Int.reduceLT, C.lps, C.isLoop, bsliceD, contents, gate, evalI, St.ev, St.put, List.replicate, Nat.reduceSub, Nat.reduceAdd, binJ, lenOfD, ressD, resD, D.ok, D.cells, one, reduceCtorEq, Nat.reduceEqDiff, Int.reduceEq]
    · refine callT_of k36_ok k36_name (Z.T hmix ?_)
      simp only [k36, k36c, zc, Tm.part, Nat.reduceLeDiff, Nat.reduceLT, Int.reduceLE, Int.reduceToNat, Nat.reducePow, Int.reducePow, D.upd, splice, buildD, bound, sliceD, within, w, c1, zz, leaves, undef, pin, Int.reduceLT, C.lps, C.isLoop, bsliceD, contents, gate, evalI, St.ev, St.put, List.replicate, Nat.reduceSub, Nat.reduceAdd, binJ, lenOfD, ressD, resD, D.ok, D.cells, one, reduceCtorEq, Nat.reduceEqDiff, Int.reduceEq]
  exact (callP_of (R := fun d => d = .v (.bool (decide (within b n)))) 3 rfl (key.mono fun _ _ h => by rw [h]; rfl) m).mono fun _ _ h => ⟨h.1.1, h.2⟩

/-- Are the lists short and the amounts moderate. -/
def fewP (l : List Ba) (n : Nat) : Prop := l.length ≤ 150 ∧ n ≤ 150 ∧ ∀ b ∈ l, within b 1152921504606846976
instance (l : List Ba) (n : Nat) : Decidable (fewP l n) := by unfold fewP; infer_instance

theorem few15 (l : List Ba) (x : D) (n : Nat) (hx : x = .sl 1 (i64s []) ∨ ∃ s : List Int, x = .sl 1 (i64s s)) (hxn : ∀ m : List Ent, lenOfD m x = some n) (m : List Ent) : CallT Try.prog 15 [basD l, x] m fun d m' => d = .v (.bool (decide (fewP l n))) ∧ m' = m := by
  have hk : ok64 (-1152921504606846976) := by unfold ok64; omega
  have hxf : idfree x = true := by
    rcases hx with rfl | ⟨s, rfl⟩
    · rfl
    · simp [idfree, i64s_free]
  have key : CallT Try.prog 15 [basD l, x] [] fun d m' => d = .v (.bool (decide (fewP l n))) := by
    simp only [basD]
    by_cases c1 : l.length ≤ 150
    · have c1' : ¬ (150 : Int) < ((l.length : Nat) : Int) := by omega
      by_cases c2 : n ≤ 150
      · have c2' : ¬ (150 : Int) < ((n : Nat) : Int) := by omega
        obtain ⟨s, rfl⟩ : ∃ s : List Int, x = .sl 1 (i64s s) := by
          rcases hx with rfl | h
          · exact ⟨[], rfl⟩
          · exact h
        have hn : s.length = n := by have := hxn []; simp only [lenOfD, i64s_len, Option.some.injEq] at this; exact this
        refine callT_of k15_ok k15_name (Z.T hmix ?_)
        simp only [k15, k15c, zc, Tm.part, Nat.reduceLeDiff, Nat.reduceLT, Int.reduceLE, Int.reduceToNat, Nat.reducePow, Int.reducePow, D.upd, splice, buildD, bound, sliceD, List.length_map, c1', i64s_len, hn, c2', zz, leaves, undef, pin, Int.reduceLT, C.lps, C.isLoop, bsliceD, contents, gate, evalI, St.ev, St.put, List.replicate, Nat.reduceSub, Nat.reduceAdd, binJ, lenOfD, ressD, resD, D.ok, D.cells, one, reduceCtorEq, Nat.reduceEqDiff, Int.reduceEq]
        refine T.blkM (X := Nat) (fun i => ⟨[.sl 4 (l.map baD), .dead, .dead, .dead, .dead, .v (.int .i64 i), .dead, .dead, .dead, .dead, .dead, .dead, .dead, .dead, .dead, .dead, .dead, .dead, .dead, .dead, .dead, .dead, .dead, .dead, .dead, .dead], []⟩)
          (fun i => i ≤ l.length ∧ ∀ b ∈ l.take i, within b 1152921504606846976) (fun _ => fewP l n) (fun i => l.length - i) 0 ⟨Nat.zero_le _, by simp⟩ ?_ ?_ ?_ (fun _ => by repeat (first | exact stab_S | exact stab_C | exact stab_I | exact stab_M | refine stab_B ?_)) ?_
        · exact At.same _ _ _ (by repeat (first | exact Subs.refl' _ | refine Subs.cons (Sub.refl _) ?_ | refine Subs.cons (Sub.toDead _) ?_))
        · intro i hi
          exact ⟨by simp, by simp [Ent.below, belows, below, belows_free, below_free, belowsApp, bas_free], by simp⟩
        · rintro i ⟨hi, hw⟩
          refine Z.T hmix ?_
          rcases Nat.lt_or_ge i l.length with h | h
          · simp only [zz, leaves, undef, pin, Int.reduceLT, C.lps, C.isLoop, bsliceD, contents, gate, evalI, St.ev, St.put, List.replicate, Nat.reduceSub, Nat.reduceAdd, binJ, lenOfD, ressD, resD, D.ok, D.cells, one, reduceCtorEq, Nat.reduceEqDiff, Int.reduceEq, zc, Tm.part, Nat.reduceLeDiff, Nat.reduceLT, Int.reduceLE, Int.reduceToNat, Nat.reducePow, Int.reducePow, D.upd, splice, buildD, bound, sliceD, List.length_map, natlt, h, bas_get h]
            refine callX_eq (with36 l[i] 1152921504606846976 hk _) ?_
            by_cases c : within l[i] 1152921504606846976
            · simp only [zz, leaves, undef, pin, Int.reduceLT, C.lps, C.isLoop, bsliceD, contents, gate, evalI, St.ev, St.put, List.replicate, Nat.reduceSub, Nat.reduceAdd, binJ, lenOfD, ressD, resD, D.ok, D.cells, one, reduceCtorEq, Nat.reduceEqDiff, Int.reduceEq, c, wrapSu i (by omega)]
              refine ⟨i + 1, ⟨h, ?_⟩, by show l.length - (i + 1) < l.length - i; omega, At.same _ _ _ (by repeat (first | exact Subs.refl' _ | refine Subs.cons (Sub.refl _) ?_ | refine Subs.cons (Sub.toDead _) ?_))⟩
              rw [List.take_succ_eq_append_getElem h]
              intro b hb
              rcases List.mem_append.1 hb with hb | hb
              · exact hw b hb
              · rw [List.mem_singleton.1 hb]; exact c
            · have hf : ¬ fewP l n := fun hf => c (hf.2.2 _ (List.getElem_mem h))
              simp only [zz, leaves, undef, pin, Int.reduceLT, C.lps, C.isLoop, bsliceD, contents, gate, evalI, St.ev, St.put, List.replicate, Nat.reduceSub, Nat.reduceAdd, binJ, lenOfD, ressD, resD, D.ok, D.cells, one, reduceCtorEq, Nat.reduceEqDiff, Int.reduceEq, c, hf]
          · obtain rfl : i = l.length := by omega
            rw [List.take_length] at hw
            simp only [zz, leaves, undef, pin, Int.reduceLT, C.lps, C.isLoop, bsliceD, contents, gate, evalI, St.ev, St.put, List.replicate, Nat.reduceSub, Nat.reduceAdd, binJ, lenOfD, ressD, resD, D.ok, D.cells, one, reduceCtorEq, Nat.reduceEqDiff, Int.reduceEq, zc, Tm.part, Nat.reduceLeDiff, Nat.reduceLT, Int.reduceLE, Int.reduceToNat, Nat.reducePow, Int.reducePow, D.upd, splice, buildD, bound, sliceD, List.length_map, natlt, Nat.lt_irrefl]
            exact ⟨_, ⟨c1, c2, hw⟩, At.same _ _ _ (by repeat (first | exact Subs.refl' _ | refine Subs.cons (Sub.refl _) ?_ | refine Subs.cons (Sub.toDead _) ?_))⟩
        · intro i hf
          simp only [zz, leaves, undef, pin, Int.reduceLT, C.lps, C.isLoop, bsliceD, contents, gate, evalI, St.ev, St.put, List.replicate, Nat.reduceSub, Nat.reduceAdd, binJ, lenOfD, ressD, resD, D.ok, D.cells, one, reduceCtorEq, Nat.reduceEqDiff, Int.reduceEq]
          refine Z.T hmix ?_
          simp only [zz, leaves, undef, pin, Int.reduceLT, C.lps, C.isLoop, bsliceD, contents, gate, evalI, St.ev, St.put, List.replicate, Nat.reduceSub, Nat.reduceAdd, binJ, lenOfD, ressD, resD, D.ok, D.cells, one, reduceCtorEq, Nat.reduceEqDiff, Int.reduceEq, hf]
      · have c2' : (150 : Int) < ((n : Nat) : Int) := by omega
        have hf : ¬ fewP l n := fun h => c2 h.2.1
        have hxn' := hxn []
        refine callT_of k15_ok k15_name (Z.T hmix ?_)
        simp only [k15, k15c, zc, Tm.part, Nat.reduceLeDiff, Nat.reduceLT, Int.reduceLE, Int.reduceToNat, Nat.reducePow, Int.reducePow, D.upd, splice, buildD, bound, sliceD, List.length_map, c1', zz, leaves, undef, pin, Int.reduceLT, C.lps, C.isLoop, bsliceD, contents, gate, evalI, St.ev, St.put, List.replicate, Nat.reduceSub, Nat.reduceAdd, binJ, lenOfD, ressD, resD, D.ok, D.cells, one, reduceCtorEq, Nat.reduceEqDiff, Int.reduceEq]
        rcases hx with rfl | ⟨s, rfl⟩ <;> simp only [lenOfD] at hxn' <;> simp only [zz, leaves, undef, pin, Int.reduceLT, C.lps, C.isLoop, bsliceD, contents, gate, evalI, St.ev, St.put, List.replicate, Nat.reduceSub, Nat.reduceAdd, binJ, lenOfD, ressD, resD, D.ok, D.cells, one, reduceCtorEq, Nat.reduceEqDiff, Int.reduceEq, hxn', c2', hf]
    · have c1' : (150 : Int) < ((l.length : Nat) : Int) := by omega
      have hf : ¬ fewP l n := fun h => c1 h.1
      refine callT_of k15_ok k15_name (Z.T hmix ?_)
      simp only [k15, k15c, zc, Tm.part, Nat.reduceLeDiff, Nat.reduceLT, Int.reduceLE, Int.reduceToNat, Nat.reducePow, Int.reducePow, D.upd, splice, buildD, bound, sliceD, List.length_map, c1', hf, zz, leaves, undef, pin, Int.reduceLT, C.lps, C.isLoop, bsliceD, contents, gate, evalI, St.ev, St.put, List.replicate, Nat.reduceSub, Nat.reduceAdd, binJ, lenOfD, ressD, resD, D.ok, D.cells, one, reduceCtorEq, Nat.reduceEqDiff, Int.reduceEq]
  exact (callP_of (R := fun d => d = .v (.bool (decide (fewP l n)))) 3 (by simp [idfrees, idfree, basD, bas_free, hxf]) (key.mono fun _ _ h => by rw [h]; rfl) m).mono fun _ _ h => ⟨h.1.1, h.2⟩

theorem few15S (l : List Ba) (s : List Int) (m : List Ent) : CallT Try.prog 15 [basD l, .sl 1 (i64s s)] m fun d m' => d = .v (.bool (decide (fewP l s.length))) ∧ m' = m :=
  few15 l _ s.length (.inr ⟨s, rfl⟩) (fun m => by simp only [lenOfD, i64s_len]) m
theorem few15N (l : List Ba) (m : List Ent) : CallT Try.prog 15 [basD l, nilD] m fun d m' => d = .v (.bool (decide (fewP l 0))) ∧ m' = m :=
  callT_sub (Subs.cons (Sub.refl _) (Subs.cons sub_nil (Subs.refl' _))) (few15S l [] m)

theorem lawPlan (l : List Ba) (p0 p1 : Int) (c : Cf) (x : List D) (s : List Int) (h0 : ok64 p0) (h1 : ok64 p1) (hc : c.Ok) (hx : idfrees x = true) :
    CallT Try.prog 4 [basD l, .agg [i64 p0, i64 p1], cfD c (.sl 1 x), .sl 1 (i64s s)] [] fun d _ => d = .v (.bool true) := by
  have hxf : idfree (.sl 1 x) = true := by simpa [idfree] using hx
  simp only [i64, cfD]
  refine callT_of k4_ok k4_name (Z.T hmix ?_)
  simp only [k4, k4c, zc, Tm.part, Nat.reduceLeDiff, Nat.reduceLT, Int.reduceLE, Int.reduceToNat, Nat.reducePow, Int.reducePow, D.upd, splice, buildD, bound, sliceD, zz, leaves, undef, pin, Int.reduceLT, C.lps, C.isLoop, bsliceD, contents, gate, evalI, St.ev, St.put, List.replicate, Nat.reduceSub, Nat.reduceAdd, binJ, lenOfD, ressD, resD, D.ok, D.cells, one, reduceCtorEq, Nat.reduceEqDiff, Int.reduceEq]
  refine callX_eq (few15S l s _) ?_
  by_cases hf : fewP l s.length
  · have hl := hf.1
    have hs := hf.2.1
    simp only [zz, leaves, undef, pin, Int.reduceLT, C.lps, C.isLoop, bsliceD, contents, gate, evalI, St.ev, St.put, List.replicate, Nat.reduceSub, Nat.reduceAdd, binJ, lenOfD, ressD, resD, D.ok, D.cells, one, reduceCtorEq, Nat.reduceEqDiff, Int.reduceEq, zc, Tm.part, Nat.reduceLeDiff, Nat.reduceLT, Int.reduceLE, Int.reduceToNat, Nat.reducePow, Int.reducePow, D.upd, splice, buildD, bound, sliceD, hf]
    refine callQ_eq (fun m => plan17 l p0 c (.sl 1 x) p1 s (by omega) (by omega) h0 hc hxf m) ?_
    simp only [zz, leaves, undef, pin, Int.reduceLT, C.lps, C.isLoop, bsliceD, contents, gate, evalI, St.ev, St.put, List.replicate, Nat.reduceSub, Nat.reduceAdd, binJ, lenOfD, ressD, resD, D.ok, D.cells, one, reduceCtorEq, Nat.reduceEqDiff, Int.reduceEq, zc, Tm.part, Nat.reduceLeDiff, Nat.reduceLT, Int.reduceLE, Int.reduceToNat, Nat.reducePow, Int.reducePow, D.upd, splice, buildD, bound, sliceD]
    refine callX_eq (plan18 l p0 c (.sl 1 x) p1 s (by omega) (by omega) h0 hc hxf _) ?_
    simp only [zz, leaves, undef, pin, Int.reduceLT, C.lps, C.isLoop, bsliceD, contents, gate, evalI, St.ev, St.put, List.replicate, Nat.reduceSub, Nat.reduceAdd, binJ, lenOfD, ressD, resD, D.ok, D.cells, one, reduceCtorEq, Nat.reduceEqDiff, Int.reduceEq, zc, Tm.part, Nat.reduceLeDiff, Nat.reduceLT, Int.reduceLE, Int.reduceToNat, Nat.reducePow, Int.reducePow, D.upd, splice, buildD, bound, sliceD]
    have hlen := dist_lenS (stOf s) p1 2 l (limS p0 c.cap c.floor)
    refine callX_eq (same16 _ (by omega) _) ?_
    simp only [zz, leaves, undef, pin, Int.reduceLT, C.lps, C.isLoop, bsliceD, contents, gate, evalI, St.ev, St.put, List.replicate, Nat.reduceSub, Nat.reduceAdd, binJ, lenOfD, ressD, resD, D.ok, D.cells, one, reduceCtorEq, Nat.reduceEqDiff, Int.reduceEq]
    refine callX_eq (awake39 _) ?_
    simp only [zz, leaves, undef, pin, Int.reduceLT, C.lps, C.isLoop, bsliceD, contents, gate, evalI, St.ev, St.put, List.replicate, Nat.reduceSub, Nat.reduceAdd, binJ, lenOfD, ressD, resD, D.ok, D.cells, one, reduceCtorEq, Nat.reduceEqDiff, Int.reduceEq]
  · simp only [zz, leaves, undef, pin, Int.reduceLT, C.lps, C.isLoop, bsliceD, contents, gate, evalI, St.ev, St.put, List.replicate, Nat.reduceSub, Nat.reduceAdd, binJ, lenOfD, ressD, resD, D.ok, D.cells, one, reduceCtorEq, Nat.reduceEqDiff, Int.reduceEq, zc, Tm.part, Nat.reduceLeDiff, Nat.reduceLT, Int.reduceLE, Int.reduceToNat, Nat.reducePow, Int.reducePow, D.upd, splice, buildD, bound, sliceD, hf]
    refine callX_eq (awake39 _) ?_
    simp only [zz, leaves, undef, pin, Int.reduceLT, C.lps, C.isLoop, bsliceD, contents, gate, evalI, St.ev, St.put, List.replicate, Nat.reduceSub, Nat.reduceAdd, binJ, lenOfD, ressD, resD, D.ok, D.cells, one, reduceCtorEq, Nat.reduceEqDiff, Int.reduceEq]
end Go.Proofs.Ytlfhdejlpnljbaa
