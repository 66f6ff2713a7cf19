/-
  PaymentClearsArrears on trees.
-/
import Derived.Test.YtlfhdejlpnljbaaPay3
set_option linter.unusedSimpArgs false
set_option linter.unusedVariables false
set_option maxHeartbeats 2000000
namespace Go.Proofs.Ytlfhdejlpnljbaa
open Go.Tm
set_option maxRecDepth 10000

theorem clean31 (l : List Ba) (hl : l.length < 2 ^ 62) (m : List Ent) : CallT Try.prog 31 [basD l] m fun d m' => (∃ b : Bool, d = .v (.bool b) ∧ (b = true → cleanP l)) ∧ m' = m := by
  have key : CallT Try.prog 31 [basD l] [] fun d m' => ∃ b : Bool, d = .v (.bool b) ∧ (b = true → cleanP l) := by
    simp only [basD]
    refine callT_of k31_ok k31_name (Z.T hmix ?_)
    simp only [k31, k31c, zz, leaves, undef, pin, Int.reduceLT, C.lps, C.isLoop, bsliceD, contents, gate, evalI, St.ev, St.put, List.replicate, Nat.reduceSub, Nat.reduceAdd, binJ, lenOfD, ressD, resD, D.ok, D.cells, one, reduceCtorEq, Nat.reduceEqDiff, Int.reduceEq]
    refine T.blkM (X := Nat) (fun i => ⟨[.sl 4 (l.map baD), .dead, .dead, .v (.int .i64 i), .dead, .dead, .dead, .dead, .dead, .dead, .dead, .dead, .dead, .dead, .dead, .dead, .dead, .dead, .dead, .dead, .dead, .dead, .dead, .dead, .dead, .dead, .dead, .dead, .dead, .dead, .dead, .dead, .dead, .dead, .dead, .dead, .dead, .dead, .dead, .dead, .dead, .dead, .dead, .dead, .dead, .dead, .dead, .dead, .dead], []⟩)
      (fun i => i ≤ l.length ∧ cleanP (l.take i)) (fun _ => cleanP l) (fun i => l.length - i) 0 ⟨Nat.zero_le _, by simp [cleanP]⟩ ?_ ?_ ?_ (fun _ => by repeat (first | exact stab_S | exact stab_C | exact stab_I | exact stab_M | refine stab_B ?_)) ?_
    · exact At.same _ _ _ (by repeat (first | exact Subs.refl' _ | refine Subs.cons (Sub.refl _) ?_ | refine Subs.cons (Sub.toDead _) ?_))
    · intro i hi
      exact ⟨by simp, by simp [Ent.below, belows, below, belows_free, below_free, belowsApp, bas_free], by simp⟩
    · rintro i ⟨hi, hw⟩
      refine Z.T hmix ?_
      rcases Nat.lt_or_ge i l.length with h | h
      · by_cases d1 : l[i].d < 0
        · simp only [zz, leaves, undef, pin, Int.reduceLT, C.lps, C.isLoop, bsliceD, contents, gate, evalI, St.ev, St.put, List.replicate, Nat.reduceSub, Nat.reduceAdd, binJ, lenOfD, ressD, resD, D.ok, D.cells, one, reduceCtorEq, Nat.reduceEqDiff, Int.reduceEq, zc, Tm.part, Nat.reduceLeDiff, Nat.reduceLT, Int.reduceLE, Int.reduceToNat, Nat.reducePow, Int.reducePow, D.upd, splice, buildD, bound, sliceD, List.length_map, natlt, h, bas_get h, d1]
          exact ⟨_, rfl, fun h => by cases h⟩
        by_cases d2 : l[i].r < 0
        · simp only [zz, leaves, undef, pin, Int.reduceLT, C.lps, C.isLoop, bsliceD, contents, gate, evalI, St.ev, St.put, List.replicate, Nat.reduceSub, Nat.reduceAdd, binJ, lenOfD, ressD, resD, D.ok, D.cells, one, reduceCtorEq, Nat.reduceEqDiff, Int.reduceEq, zc, Tm.part, Nat.reduceLeDiff, Nat.reduceLT, Int.reduceLE, Int.reduceToNat, Nat.reducePow, Int.reducePow, D.upd, splice, buildD, bound, sliceD, List.length_map, natlt, h, bas_get h, d1, d2]
          exact ⟨_, rfl, fun h => by cases h⟩
        by_cases d3 : l[i].w < 0
        · simp only [zz, leaves, undef, pin, Int.reduceLT, C.lps, C.isLoop, bsliceD, contents, gate, evalI, St.ev, St.put, List.replicate, Nat.reduceSub, Nat.reduceAdd, binJ, lenOfD, ressD, resD, D.ok, D.cells, one, reduceCtorEq, Nat.reduceEqDiff, Int.reduceEq, zc, Tm.part, Nat.reduceLeDiff, Nat.reduceLT, Int.reduceLE, Int.reduceToNat, Nat.reducePow, Int.reducePow, D.upd, splice, buildD, bound, sliceD, List.length_map, natlt, h, bas_get h, d1, d2, d3]
          exact ⟨_, rfl, fun h => by cases h⟩
        simp only [zz, leaves, undef, pin, Int.reduceLT, C.lps, C.isLoop, bsliceD, contents, gate, evalI, St.ev, St.put, List.replicate, Nat.reduceSub, Nat.reduceAdd, binJ, lenOfD, ressD, resD, D.ok, D.cells, one, reduceCtorEq, Nat.reduceEqDiff, Int.reduceEq, zc, Tm.part, Nat.reduceLeDiff, Nat.reduceLT, Int.reduceLE, Int.reduceToNat, Nat.reducePow, Int.reducePow, D.upd, splice, buildD, bound, sliceD, List.length_map, natlt, h, bas_get h, d1, d2, d3]
        refine T.blkM (X := Nat) (fun k => ⟨[.sl 4 (l.map baD), .dead, .dead, .v (.int .i64 i), .v (.int .i64 k), .dead, .dead, .dead, .dead, .dead, .dead, .dead, .dead, .dead, .dead, .dead, .dead, .dead, .dead, .dead, .dead, .dead, .dead, .dead, .dead, .dead, .dead, .dead, .dead, .dead, .dead, .dead, .dead, .dead, .dead, .dead, .dead, .dead, .dead, .dead, .dead, .dead, .dead, .dead, .dead, .dead, .dead, .dead, .dead], []⟩)
          (fun k => k ≤ i ∧ l[i].m ∉ (l.take k).map Ba.m) (fun _ => l[i].m ∉ (l.take i).map Ba.m) (fun k => i - k) 0 ⟨Nat.zero_le _, by simp⟩ ?_ ?_ ?_ (fun _ => by repeat (first | exact stab_S | exact stab_C | exact stab_I | exact stab_M | refine stab_B ?_)) ?_
        · exact At.same _ _ _ (by repeat (first | exact Subs.refl' _ | refine Subs.cons (Sub.refl _) ?_ | refine Subs.cons (Sub.toDead _) ?_))
        · intro k hk
          exact ⟨by simp, by simp [Ent.below, belows, below, belows_free, below_free, belowsApp, bas_free], by simp⟩
        · rintro k ⟨hk, hn⟩
          refine Z.T hmix ?_
          rcases Nat.lt_or_ge k i with g | g
          · have gl : k < l.length := by omega
            by_cases e : l[k].m = l[i].m
            · simp only [zz, leaves, undef, pin, Int.reduceLT, C.lps, C.isLoop, bsliceD, contents, gate, evalI, St.ev, St.put, List.replicate, Nat.reduceSub, Nat.reduceAdd, binJ, lenOfD, ressD, resD, D.ok, D.cells, one, reduceCtorEq, Nat.reduceEqDiff, Int.reduceEq, zc, Tm.part, Nat.reduceLeDiff, Nat.reduceLT, Int.reduceLE, Int.reduceToNat, Nat.reducePow, Int.reducePow, D.upd, splice, buildD, bound, sliceD, List.length_map, natlt, g, gl, h, bas_get h, bas_get gl, e]
              exact ⟨_, rfl, fun h => by cases h⟩
            · simp only [zz, leaves, undef, pin, Int.reduceLT, C.lps, C.isLoop, bsliceD, contents, gate, evalI, St.ev, St.put, List.replicate, Nat.reduceSub, Nat.reduceAdd, binJ, lenOfD, ressD, resD, D.ok, D.cells, one, reduceCtorEq, Nat.reduceEqDiff, Int.reduceEq, zc, Tm.part, Nat.reduceLeDiff, Nat.reduceLT, Int.reduceLE, Int.reduceToNat, Nat.reducePow, Int.reducePow, D.upd, splice, buildD, bound, sliceD, List.length_map, natlt, g, gl, h, bas_get h, bas_get gl, e, wrapSu k (by omega)]
              refine ⟨k + 1, ⟨g, ?_⟩, by show i - (k + 1) < i - k; omega, At.same _ _ _ (by repeat (first | exact Subs.refl' _ | refine Subs.cons (Sub.refl _) ?_ | refine Subs.cons (Sub.toDead _) ?_))⟩
              rw [List.take_succ_eq_append_getElem gl, List.map_append, List.mem_append]
              rintro (hh | hh)
              · exact hn hh
              · simp only [List.map_cons, List.map_nil, List.mem_singleton] at hh
                exact e hh.symm
          · obtain rfl : k = i := by omega
            simp only [zz, leaves, undef, pin, Int.reduceLT, C.lps, C.isLoop, bsliceD, contents, gate, evalI, St.ev, St.put, List.replicate, Nat.reduceSub, Nat.reduceAdd, binJ, lenOfD, ressD, resD, D.ok, D.cells, one, reduceCtorEq, Nat.reduceEqDiff, Int.reduceEq, zc, Tm.part, Nat.reduceLeDiff, Nat.reduceLT, Int.reduceLE, Int.reduceToNat, Nat.reducePow, Int.reducePow, D.upd, splice, buildD, bound, sliceD, natlt, Nat.lt_irrefl]
            exact ⟨k, hn, At.same _ _ _ (by repeat (first | exact Subs.refl' _ | refine Subs.cons (Sub.refl _) ?_ | refine Subs.cons (Sub.toDead _) ?_))⟩
        · intro k hn
          simp only [zz, leaves, undef, pin, Int.reduceLT, C.lps, C.isLoop, bsliceD, contents, gate, evalI, St.ev, St.put, List.replicate, Nat.reduceSub, Nat.reduceAdd, binJ, lenOfD, ressD, resD, D.ok, D.cells, one, reduceCtorEq, Nat.reduceEqDiff, Int.reduceEq]
          refine Z.T hmix ?_
          simp only [zz, leaves, undef, pin, Int.reduceLT, C.lps, C.isLoop, bsliceD, contents, gate, evalI, St.ev, St.put, List.replicate, Nat.reduceSub, Nat.reduceAdd, binJ, lenOfD, ressD, resD, D.ok, D.cells, one, reduceCtorEq, Nat.reduceEqDiff, Int.reduceEq, wrapSu i (by omega)]
          refine ⟨i + 1, ⟨h, ?_⟩, by show l.length - (i + 1) < l.length - i; omega, At.same _ _ _ (by repeat (first | exact Subs.refl' _ | refine Subs.cons (Sub.refl _) ?_ | refine Subs.cons (Sub.toDead _) ?_))⟩
          rw [List.take_succ_eq_append_getElem h]
          refine ⟨fun b hb => ?_, ?_⟩
          · rcases List.mem_append.1 hb with hb | hb
            · exact hw.1 b hb
            · rw [List.mem_singleton.1 hb]; omega
          · rw [List.map_append, List.nodup_append]
            refine ⟨hw.2, by simp, fun a ha b hb => ?_⟩
            simp only [List.map_cons, List.map_nil, List.mem_singleton] at hb
            rw [hb]
            exact fun e => hn (e ▸ ha)
      · obtain rfl : i = l.length := by omega
        rw [List.take_length] at hw
        simp only [zz, leaves, undef, pin, Int.reduceLT, C.lps, C.isLoop, bsliceD, contents, gate, evalI, St.ev, St.put, List.replicate, Nat.reduceSub, Nat.reduceAdd, binJ, lenOfD, ressD, resD, D.ok, D.cells, one, reduceCtorEq, Nat.reduceEqDiff, Int.reduceEq, zc, Tm.part, Nat.reduceLeDiff, Nat.reduceLT, Int.reduceLE, Int.reduceToNat, Nat.reducePow, Int.reducePow, D.upd, splice, buildD, bound, sliceD, List.length_map, natlt, Nat.lt_irrefl]
        exact ⟨l.length, hw, At.same _ _ _ (by repeat (first | exact Subs.refl' _ | refine Subs.cons (Sub.refl _) ?_ | refine Subs.cons (Sub.toDead _) ?_))⟩
    · intro i hf
      simp only [zz, leaves, undef, pin, Int.reduceLT, C.lps, C.isLoop, bsliceD, contents, gate, evalI, St.ev, St.put, List.replicate, Nat.reduceSub, Nat.reduceAdd, binJ, lenOfD, ressD, resD, D.ok, D.cells, one, reduceCtorEq, Nat.reduceEqDiff, Int.reduceEq]
      refine Z.T hmix ?_
      simp only [zz, leaves, undef, pin, Int.reduceLT, C.lps, C.isLoop, bsliceD, contents, gate, evalI, St.ev, St.put, List.replicate, Nat.reduceSub, Nat.reduceAdd, binJ, lenOfD, ressD, resD, D.ok, D.cells, one, reduceCtorEq, Nat.reduceEqDiff, Int.reduceEq]
      exact ⟨_, rfl, fun _ => hf⟩
  refine (callP_of (R := fun d => ∃ b : Bool, d = .v (.bool b) ∧ (b = true → cleanP l)) 3 (by simp [idfrees, idfree, basD, bas_free]) (key.mono fun _ _ h => ?_) m).mono fun _ _ h => ⟨h.1.1, h.2⟩
  obtain ⟨b, rfl, h⟩ := h
  exact ⟨b, rfl, h⟩

theorem recv32 (b : Ba) (ps : List Ps) (hr : -1000000000000000 ≤ b.r ∧ b.r ≤ 1000000000000000) (hb : bndL ps) (hl : ps.length ≤ 120) (hk : ∀ p ∈ ps, p.k = 1 ∨ p.k = 2) (m : List Ent) :
    CallT Try.prog 32 [.agg [.v (.int .i64 b.m), .v (.int .i64 b.d), .v (.int .i64 b.r), .v (.int .i64 b.w)], pssD ps] m fun d m' => d = i64 (b.r + sumK 1 b.m ps - sumK 2 b.m ps) ∧ m' = m := by
  have key : CallT Try.prog 32 [.agg [.v (.int .i64 b.m), .v (.int .i64 b.d), .v (.int .i64 b.r), .v (.int .i64 b.w)], pssD ps] [] fun d m' => d = i64 (b.r + sumK 1 b.m ps - sumK 2 b.m ps) := by
    simp only [pssD]
    refine callT_of k32_ok k32_name (Z.T hmix ?_)
    simp only [k32, k32c, zc, Tm.part, Nat.reduceLeDiff, Nat.reduceLT, Int.reduceLE, Int.reduceToNat, Nat.reducePow, Int.reducePow, D.upd, splice, buildD, bound, sliceD, zz, leaves, undef, pin, Int.reduceLT, C.lps, C.isLoop, bsliceD, contents, gate, evalI, St.ev, St.put, List.replicate, Nat.reduceSub, Nat.reduceAdd, binJ, lenOfD, ressD, resD, D.ok, D.cells, one, reduceCtorEq, Nat.reduceEqDiff, Int.reduceEq]
    refine T.blkI ps.length (fun i => ⟨[.dead, .sl 4 (ps.map psD), .ref 0 0 0 0, .dead, .dead, .v (.int .i64 (b.r + sumK 1 b.m (ps.take i) - sumK 2 b.m (ps.take i))), .v (.int .i64 i), .dead, .dead, .dead, .dead, .dead, .dead, .dead, .dead, .dead, .dead, .dead, .dead, .dead, .dead, .dead, .dead, .dead, .dead, .dead, .dead, .dead, .dead, .dead, .dead, .dead, .dead, .dead, .dead, .dead, .dead, .dead, .dead, .dead, .dead, .dead, .dead, .dead, .dead, .dead, .dead, .dead, .dead, .dead, .dead, .dead, .dead, .dead, .dead, .dead, .dead, .dead, .dead, .dead, .dead, .dead], [.live 4 0 [.agg [.v (.int .i64 b.m), .v (.int .i64 b.d), .v (.int .i64 b.r), .v (.int .i64 b.w)]]]⟩) ?_ ?_ ?_ (by repeat (first | exact stab_S | exact stab_C | exact stab_I | exact stab_M | refine stab_B ?_)) ?_
    · refine At.same _ _ _ ?_
      simp only [List.take_zero, sumK, Int.sub_zero, Int.add_zero]
      repeat (first | exact Subs.refl' _ | refine Subs.cons (Sub.refl _) ?_ | refine Subs.cons (Sub.toDead _) ?_)
    · intro i hi
      exact ⟨by simp, by simp [Ent.below, belows, below, belows_free, below_free, belowsApp, pss_free], by simp [Ent.below, belows, below]⟩
    · intro i hi
      refine Z.T hmix ?_
      rcases Nat.lt_or_ge i ps.length with h | h
      · have e1 := sumK_succ 1 b.m h
        have e2 := sumK_succ 2 b.m h
        have b1 := sumK_bnd (k := 1) (m := b.m) (bnd_take hb i)
        have b2 := sumK_bnd (k := 2) (m := b.m) (bnd_take hb i)
        have b3 := hb ps[i] (List.getElem_mem h)
        have b4 : (ps.take i).length ≤ 120 := by rw [List.length_take]; omega
        by_cases c : ps[i].m = b.m
        · rcases hk ps[i] (List.getElem_mem h) with c1 | c1
          · rw [if_pos ⟨c, c1⟩] at e1
            rw [if_neg (by omega)] at e2
            have w : wrapF .i64 (b.r + sumK 1 b.m (ps.take i) - sumK 2 b.m (ps.take i) + ps[i].c) = b.r + sumK 1 b.m (ps.take (i + 1)) - sumK 2 b.m (ps.take (i + 1)) := by
              rw [wrapI (by omega)]; omega
            simp only [zz, leaves, undef, pin, Int.reduceLT, C.lps, C.isLoop, bsliceD, contents, gate, evalI, St.ev, St.put, List.replicate, Nat.reduceSub, Nat.reduceAdd, binJ, lenOfD, ressD, resD, D.ok, D.cells, one, reduceCtorEq, Nat.reduceEqDiff, Int.reduceEq, zc, Tm.part, Nat.reduceLeDiff, Nat.reduceLT, Int.reduceLE, Int.reduceToNat, Nat.reducePow, Int.reducePow, D.upd, splice, buildD, bound, sliceD, List.length_map, natlt, h, pss_get h, c, c1, w, wrapSu i (by omega)]
            exact At.same _ _ _ (by repeat (first | exact Subs.refl' _ | refine Subs.cons (Sub.refl _) ?_ | refine Subs.cons (Sub.toDead _) ?_))
          · rw [if_neg (by omega)] at e1
            rw [if_pos ⟨c, c1⟩] at e2
            have w : wrapF .i64 (b.r + sumK 1 b.m (ps.take i) - sumK 2 b.m (ps.take i) - ps[i].c) = b.r + sumK 1 b.m (ps.take (i + 1)) - sumK 2 b.m (ps.take (i + 1)) := by
              rw [wrapI (by omega)]; omega
            simp only [zz, leaves, undef, pin, Int.reduceLT, C.lps, C.isLoop, bsliceD, contents, gate, evalI, St.ev, St.put, List.replicate, Nat.reduceSub, Nat.reduceAdd, binJ, lenOfD, ressD, resD, D.ok, D.cells, one, reduceCtorEq, Nat.reduceEqDiff, Int.reduceEq, zc, Tm.part, Nat.reduceLeDiff, Nat.reduceLT, Int.reduceLE, Int.reduceToNat, Nat.reducePow, Int.reducePow, D.upd, splice, buildD, bound, sliceD, List.length_map, natlt, h, pss_get h, c, c1, w, wrapSu i (by omega)]
            exact At.same _ _ _ (by repeat (first | exact Subs.refl' _ | refine Subs.cons (Sub.refl _) ?_ | refine Subs.cons (Sub.toDead _) ?_))
        · rw [if_neg (fun hh => c hh.1)] at e1 e2
          simp only [zz, leaves, undef, pin, Int.reduceLT, C.lps, C.isLoop, bsliceD, contents, gate, evalI, St.ev, St.put, List.replicate, Nat.reduceSub, Nat.reduceAdd, binJ, lenOfD, ressD, resD, D.ok, D.cells, one, reduceCtorEq, Nat.reduceEqDiff, Int.reduceEq, zc, Tm.part, Nat.reduceLeDiff, Nat.reduceLT, Int.reduceLE, Int.reduceToNat, Nat.reducePow, Int.reducePow, D.upd, splice, buildD, bound, sliceD, List.length_map, natlt, h, pss_get h, c, e1, e2, Int.add_zero, wrapSu i (by omega)]
          exact At.same _ _ _ (by repeat (first | exact Subs.refl' _ | refine Subs.cons (Sub.refl _) ?_ | refine Subs.cons (Sub.toDead _) ?_))
      · obtain rfl : i = ps.length := by omega
        simp only [zz, leaves, undef, pin, Int.reduceLT, C.lps, C.isLoop, bsliceD, contents, gate, evalI, St.ev, St.put, List.replicate, Nat.reduceSub, Nat.reduceAdd, binJ, lenOfD, ressD, resD, D.ok, D.cells, one, reduceCtorEq, Nat.reduceEqDiff, Int.reduceEq, zc, Tm.part, Nat.reduceLeDiff, Nat.reduceLT, Int.reduceLE, Int.reduceToNat, Nat.reducePow, Int.reducePow, D.upd, splice, buildD, bound, sliceD, List.length_map, natlt, Nat.lt_irrefl]
        exact At.same _ _ _ (by repeat (first | exact Subs.refl' _ | refine Subs.cons (Sub.refl _) ?_ | refine Subs.cons (Sub.toDead _) ?_))
    · simp only [zz, leaves, undef, pin, Int.reduceLT, C.lps, C.isLoop, bsliceD, contents, gate, evalI, St.ev, St.put, List.replicate, Nat.reduceSub, Nat.reduceAdd, binJ, lenOfD, ressD, resD, D.ok, D.cells, one, reduceCtorEq, Nat.reduceEqDiff, Int.reduceEq, List.take_length]
      refine Z.T hmix ?_
      simp only [zz, leaves, undef, pin, Int.reduceLT, C.lps, C.isLoop, bsliceD, contents, gate, evalI, St.ev, St.put, List.replicate, Nat.reduceSub, Nat.reduceAdd, binJ, lenOfD, ressD, resD, D.ok, D.cells, one, reduceCtorEq, Nat.reduceEqDiff, Int.reduceEq]
      rfl
  exact (callP_of (R := fun d => d = i64 (b.r + sumK 1 b.m ps - sumK 2 b.m ps)) 3 (by simp [idfrees, idfree, pssD, pss_free]) (key.mono fun _ _ h => by rw [h]; rfl) m).mono fun _ _ h => ⟨h.1.1, h.2⟩

theorem lawClears (l : List Ba) (to : Int) (c : Cf) (x : List D) (s : List Int) (hc : c.Ok) (hx : idfrees x = true) (hl62 : l.length < 2 ^ 63) :
    CallT Try.prog 11 [basD l, i64 to, cfD c (.sl 1 x), .sl 1 (i64s s)] [] fun d _ => d = .v (.bool true) := by
  have hxf : idfree (.sl 1 x) = true := by simpa [idfree] using hx
  have hcf := cf_free c hxf
  simp only [i64, cfD]
  refine callT_of k11_ok k11_name (Z.T hmix ?_)
  simp only [k11, k11c, zc, Tm.part, Nat.reduceLeDiff, Nat.reduceLT, Int.reduceLE, Int.reduceToNat, Nat.reducePow, Int.reducePow, D.upd, splice, buildD, bound, sliceD, zz, leaves, undef, pin, Int.reduceLT, C.lps, C.isLoop, bsliceD, contents, gate, evalI, St.ev, St.put, List.replicate, Nat.reduceSub, Nat.reduceAdd, binJ, lenOfD, ressD, resD, D.ok, D.cells, one, reduceCtorEq, Nat.reduceEqDiff, Int.reduceEq]
  refine callX_eq (mod22 l s _) ?_
  by_cases hf : modP l s.length
  · have hll := hf.1
    simp only [zz, leaves, undef, pin, Int.reduceLT, C.lps, C.isLoop, bsliceD, contents, gate, evalI, St.ev, St.put, List.replicate, Nat.reduceSub, Nat.reduceAdd, binJ, lenOfD, ressD, resD, D.ok, D.cells, one, reduceCtorEq, Nat.reduceEqDiff, Int.reduceEq, zc, Tm.part, Nat.reduceLeDiff, Nat.reduceLT, Int.reduceLE, Int.reduceToNat, Nat.reducePow, Int.reducePow, D.upd, splice, buildD, bound, sliceD, hf]
    refine callX_of (clean31 l (by omega) _) ?_
    rintro d m' ⟨⟨b, hb, hcl⟩, hm'⟩
    subst hm'
    cases b with
    | false =>
      simp only [hb, zz, leaves, undef, pin, Int.reduceLT, C.lps, C.isLoop, bsliceD, contents, gate, evalI, St.ev, St.put, List.replicate, Nat.reduceSub, Nat.reduceAdd, binJ, lenOfD, ressD, resD, D.ok, D.cells, one, reduceCtorEq, Nat.reduceEqDiff, Int.reduceEq, zc, Tm.part, Nat.reduceLeDiff, Nat.reduceLT, Int.reduceLE, Int.reduceToNat, Nat.reducePow, Int.reducePow, D.upd, splice, buildD, bound, sliceD]
      refine callX_eq (awake40 _) ?_
      simp only [zz, leaves, undef, pin, Int.reduceLT, C.lps, C.isLoop, bsliceD, contents, gate, evalI, St.ev, St.put, List.replicate, Nat.reduceSub, Nat.reduceAdd, binJ, lenOfD, ressD, resD, D.ok, D.cells, one, reduceCtorEq, Nat.reduceEqDiff, Int.reduceEq]
    | true =>
      simp only [hb, zz, leaves, undef, pin, Int.reduceLT, C.lps, C.isLoop, bsliceD, contents, gate, evalI, St.ev, St.put, List.replicate, Nat.reduceSub, Nat.reduceAdd, binJ, lenOfD, ressD, resD, D.ok, D.cells, one, reduceCtorEq, Nat.reduceEqDiff, Int.reduceEq, zc, Tm.part, Nat.reduceLeDiff, Nat.reduceLT, Int.reduceLE, Int.reduceToNat, Nat.reducePow, Int.reducePow, D.upd, splice, buildD, bound, sliceD]
      refine callX_eq (sm23 c x hx _) ?_
      by_cases hs : x.length ≤ 70
      · simp only [zz, leaves, undef, pin, Int.reduceLT, C.lps, C.isLoop, bsliceD, contents, gate, evalI, St.ev, St.put, List.replicate, Nat.reduceSub, Nat.reduceAdd, binJ, lenOfD, ressD, resD, D.ok, D.cells, one, reduceCtorEq, Nat.reduceEqDiff, Int.reduceEq, zc, Tm.part, Nat.reduceLeDiff, Nat.reduceLT, Int.reduceLE, Int.reduceToNat, Nat.reducePow, Int.reducePow, D.upd, splice, buildD, bound, sliceD, hs]
        refine callX_eq (pay25 l to c (.sl 1 x) 9 s hf hc hxf _) ?_
        have F := pay_facts to c (stOf s) l s.length hf (hcl rfl)
        obtain ⟨ps, hps⟩ : ∃ ps, payS to 9 c (stOf s) l = ps := ⟨_, rfl⟩
        rw [hps] at F ⊢
        have hln := F.len
        simp only [zz, leaves, undef, pin, Int.reduceLT, C.lps, C.isLoop, bsliceD, contents, gate, evalI, St.ev, St.put, List.replicate, Nat.reduceSub, Nat.reduceAdd, binJ, lenOfD, ressD, resD, D.ok, D.cells, one, reduceCtorEq, Nat.reduceEqDiff, Int.reduceEq, zc, Tm.part, Nat.reduceLeDiff, Nat.reduceLT, Int.reduceLE, Int.reduceToNat, Nat.reducePow, Int.reducePow, D.upd, splice, buildD, bound, sliceD, pssD, basD]
        refine T.blkI ps.length (fun i => ⟨[.sl 4 (l.map baD), .v (.int .i64 to), .dead, .dead, .dead, .dead, .ref 0 0 0 0, .dead, .dead, .sl 4 (ps.map psD), .v (.int .i64 (sumA 1 (ps.take i))), .v (.int .i64 (sumA 2 (ps.take i))), .v (.int .i64 i), .dead, .dead, .dead, .dead, .dead, .dead, .dead, .dead, .dead, .dead, .dead, .dead, .dead, .dead, .dead, .dead, .dead, .dead, .dead, .dead, .dead, .dead, .dead, .dead, .dead, .dead, .dead, .dead, .dead, .dead, .dead, .dead, .dead, .dead, .dead, .dead, .dead, .dead, .dead, .dead, .dead, .dead, .dead, .dead, .dead, .dead, .dead, .dead, .dead, .dead, .dead, .dead, .dead, .dead, .dead, .dead, .dead, .dead, .dead, .dead, .dead, .dead, .dead, .dead, .dead, .dead, .dead, .dead, .dead, .dead, .dead, .dead, .dead, .dead, .dead, .dead, .dead, .dead, .dead, .dead, .dead, .dead, .dead, .dead, .dead, .dead, .dead, .dead, .dead, .dead, .dead, .dead, .dead, .dead, .dead, .dead, .dead, .dead, .dead, .dead, .dead, .dead, .dead, .dead, .dead, .dead, .dead, .dead, .dead, .dead, .dead, .dead, .dead, .dead, .dead, .dead, .dead, .dead, .dead, .dead, .dead, .dead, .dead, .dead, .dead, .dead, .dead, .dead, .dead, .dead, .dead, .dead, .dead, .dead, .dead, .dead, .dead, .dead, .dead, .dead, .dead, .dead, .dead, .dead, .dead, .dead, .dead], [.live 9 0 [cfD c (.sl 1 x)]]⟩) ?_ ?_ ?_ (by repeat (first | exact stab_S | exact stab_C | exact stab_I | exact stab_M | refine stab_B ?_)) ?_
        · exact At.cut 1 (by repeat (first | exact Subs.refl' _ | refine Subs.cons (Sub.refl _) ?_ | refine Subs.cons (Sub.toDead _) ?_)) rfl
        · intro i hi
          exact ⟨by simp, by simp [Ent.below, belows, below, belows_free, below_free, belowsApp, pss_free, bas_free], by simp [Ent.below, belows, below_free _ _ hcf]⟩
        · intro i hi
          refine Z.T hmix ?_
          rcases Nat.lt_or_ge i ps.length with h | h
          · have e1 := sumA_succ 1 h
            have e2 := sumA_succ 2 h
            have b1 := sumA_bnd (k := 1) (bnd_take F.bnd i)
            have b2 := sumA_bnd (k := 2) (bnd_take F.bnd i)
            have b3 := F.bnd ps[i] (List.getElem_mem h)
            have b4 : (ps.take i).length ≤ 120 := by rw [List.length_take]; omega
            obtain ⟨g1, g2⟩ := F.each ps[i] (List.getElem_mem h)
            have g3 : ¬ ps[i].c < 1 := by omega
            rcases g2 with g2 | g2
            · rw [if_pos g2] at e1
              rw [if_neg (by omega)] at e2
              have w : wrapF .i64 (sumA 1 (ps.take i) + ps[i].c) = sumA 1 (ps.take (i + 1)) := by rw [wrapI (by omega)]; omega
              simp only [zz, leaves, undef, pin, Int.reduceLT, C.lps, C.isLoop, bsliceD, contents, gate, evalI, St.ev, St.put, List.replicate, Nat.reduceSub, Nat.reduceAdd, binJ, lenOfD, ressD, resD, D.ok, D.cells, one, reduceCtorEq, Nat.reduceEqDiff, Int.reduceEq, zc, Tm.part, Nat.reduceLeDiff, Nat.reduceLT, Int.reduceLE, Int.reduceToNat, Nat.reducePow, Int.reducePow, D.upd, splice, buildD, bound, sliceD, List.length_map, natlt, h, pss_get h, g1, g2, g3, w, wrapSu i (by omega), e2, Int.add_zero]
              exact At.same _ _ _ (by repeat (first | exact Subs.refl' _ | refine Subs.cons (Sub.refl _) ?_ | refine Subs.cons (Sub.toDead _) ?_))
            · rw [if_neg (by omega)] at e1
              rw [if_pos g2] at e2
              have w : wrapF .i64 (sumA 2 (ps.take i) + ps[i].c) = sumA 2 (ps.take (i + 1)) := by rw [wrapI (by omega)]; omega
              simp only [zz, leaves, undef, pin, Int.reduceLT, C.lps, C.isLoop, bsliceD, contents, gate, evalI, St.ev, St.put, List.replicate, Nat.reduceSub, Nat.reduceAdd, binJ, lenOfD, ressD, resD, D.ok, D.cells, one, reduceCtorEq, Nat.reduceEqDiff, Int.reduceEq, zc, Tm.part, Nat.reduceLeDiff, Nat.reduceLT, Int.reduceLE, Int.reduceToNat, Nat.reducePow, Int.reducePow, D.upd, splice, buildD, bound, sliceD, List.length_map, natlt, h, pss_get h, g1, g2, g3, w, wrapSu i (by omega), e1, Int.add_zero]
              exact At.same _ _ _ (by repeat (first | exact Subs.refl' _ | refine Subs.cons (Sub.refl _) ?_ | refine Subs.cons (Sub.toDead _) ?_))
          · obtain rfl : i = ps.length := by omega
            simp only [zz, leaves, undef, pin, Int.reduceLT, C.lps, C.isLoop, bsliceD, contents, gate, evalI, St.ev, St.put, List.replicate, Nat.reduceSub, Nat.reduceAdd, binJ, lenOfD, ressD, resD, D.ok, D.cells, one, reduceCtorEq, Nat.reduceEqDiff, Int.reduceEq, zc, Tm.part, Nat.reduceLeDiff, Nat.reduceLT, Int.reduceLE, Int.reduceToNat, Nat.reducePow, Int.reducePow, D.upd, splice, buildD, bound, sliceD, List.length_map, natlt, Nat.lt_irrefl]
            exact At.same _ _ _ (by repeat (first | exact Subs.refl' _ | refine Subs.cons (Sub.refl _) ?_ | refine Subs.cons (Sub.toDead _) ?_))
        · rw [List.take_length]
          have hcash : cashS ps = sumA 1 ps - sumA 2 ps := cash_sum F.bnd (by omega)
          have s1 := sumA_bnd (k := 1) F.bnd
          have s2 := sumA_bnd (k := 2) F.bnd
          have hlim := F.lim
          have hnet := F.net
          have w1 : wrapF .i64 (sumA 1 ps - sumA 2 ps) = sumA 1 ps - sumA 2 ps := wrapI (by omega)
          have n1 : ¬ limS (sumA 1 ps) c.cap c.floor < sumA 2 ps := by omega
          have n2 : ¬ sumA 1 ps - sumA 2 ps < 0 := by omega
          simp only [zz, leaves, undef, pin, Int.reduceLT, C.lps, C.isLoop, bsliceD, contents, gate, evalI, St.ev, St.put, List.replicate, Nat.reduceSub, Nat.reduceAdd, binJ, lenOfD, ressD, resD, D.ok, D.cells, one, reduceCtorEq, Nat.reduceEqDiff, Int.reduceEq]
          refine T.seq (T.mono (K := fun e s' => e = .normal ∧ At s' ⟨[.sl 4 (l.map baD), .v (.int .i64 to), .dead, .dead, .dead, .dead, .dead, .dead, .dead, .sl 4 (ps.map psD), .dead, .dead, .dead, .dead, .dead, .dead, .dead, .dead, .dead, .dead, .dead, .dead, .dead, .dead, .dead, .dead, .dead, .dead, .dead, .dead, .dead, .dead, .dead, .dead, .dead, .dead, .dead, .dead, .dead, .dead, .dead, .dead, .dead, .dead, .dead, .dead, .dead, .dead, .dead, .dead, .dead, .dead, .dead, .dead, .dead, .dead, .dead, .dead, .dead, .dead, .dead, .dead, .dead, .dead, .dead, .dead, .dead, .dead, .dead, .dead, .dead, .dead, .dead, .dead, .dead, .dead, .dead, .dead, .dead, .dead, .dead, .dead, .dead, .dead, .dead, .dead, .dead, .dead, .dead, .dead, .dead, .dead, .dead, .dead, .dead, .dead, .dead, .dead, .dead, .dead, .dead, .dead, .dead, .dead, .dead, .dead, .dead, .dead, .dead, .dead, .dead, .dead, .dead, .dead, .dead, .dead, .dead, .dead, .dead, .dead, .dead, .dead, .dead, .dead, .dead, .dead, .dead, .dead, .dead, .dead, .dead, .dead, .dead, .dead, .dead, .dead, .dead, .dead, .dead, .dead, .dead, .dead, .dead, .dead, .dead, .dead, .dead, .dead, .dead, .dead, .dead, .dead, .dead, .dead, .dead, .dead, .dead, .dead, .dead, .dead], []⟩) ?_ ?_)
          · refine Z.T hmix ?_
            by_cases c1 : sumA 1 ps ≤ 1000000000000000
            · by_cases c2 : 0 ≤ c.floor
              · simp only [zz, leaves, undef, pin, Int.reduceLT, C.lps, C.isLoop, bsliceD, contents, gate, evalI, St.ev, St.put, List.replicate, Nat.reduceSub, Nat.reduceAdd, binJ, lenOfD, ressD, resD, D.ok, D.cells, one, reduceCtorEq, Nat.reduceEqDiff, Int.reduceEq, zc, Tm.part, Nat.reduceLeDiff, Nat.reduceLT, Int.reduceLE, Int.reduceToNat, Nat.reducePow, Int.reducePow, D.upd, splice, buildD, bound, sliceD, c1, cfD, i64]
                refine callX_eq (lim12 (sumA 1 ps) c (.sl 1 x) (by unfold ok64; omega) hc hxf _) ?_
                simp only [zz, leaves, undef, pin, Int.reduceLT, C.lps, C.isLoop, bsliceD, contents, gate, evalI, St.ev, St.put, List.replicate, Nat.reduceSub, Nat.reduceAdd, binJ, lenOfD, ressD, resD, D.ok, D.cells, one, reduceCtorEq, Nat.reduceEqDiff, Int.reduceEq, zc, Tm.part, Nat.reduceLeDiff, Nat.reduceLT, Int.reduceLE, Int.reduceToNat, Nat.reducePow, Int.reducePow, D.upd, splice, buildD, bound, sliceD, i64, n1, c2]
                refine callX_eq (cash27P ps (by omega) _) ?_
                rw [hcash]
                simp only [zz, leaves, undef, pin, Int.reduceLT, C.lps, C.isLoop, bsliceD, contents, gate, evalI, St.ev, St.put, List.replicate, Nat.reduceSub, Nat.reduceAdd, binJ, lenOfD, ressD, resD, D.ok, D.cells, one, reduceCtorEq, Nat.reduceEqDiff, Int.reduceEq, zc, Tm.part, Nat.reduceLeDiff, Nat.reduceLT, Int.reduceLE, Int.reduceToNat, Nat.reducePow, Int.reducePow, D.upd, splice, buildD, bound, sliceD, i64, n2]
                refine callX_eq (cash27P ps (by omega) _) ?_
                rw [hcash]
                simp only [zz, leaves, undef, pin, Int.reduceLT, C.lps, C.isLoop, bsliceD, contents, gate, evalI, St.ev, St.put, List.replicate, Nat.reduceSub, Nat.reduceAdd, binJ, lenOfD, ressD, resD, D.ok, D.cells, one, reduceCtorEq, Nat.reduceEqDiff, Int.reduceEq, zc, Tm.part, Nat.reduceLeDiff, Nat.reduceLT, Int.reduceLE, Int.reduceToNat, Nat.reducePow, Int.reducePow, D.upd, splice, buildD, bound, sliceD, i64, w1]
                exact At.cut 0 (by repeat (first | exact Subs.refl' _ | refine Subs.cons (Sub.refl _) ?_ | refine Subs.cons (Sub.toDead _) ?_)) rfl
              · simp only [zz, leaves, undef, pin, Int.reduceLT, C.lps, C.isLoop, bsliceD, contents, gate, evalI, St.ev, St.put, List.replicate, Nat.reduceSub, Nat.reduceAdd, binJ, lenOfD, ressD, resD, D.ok, D.cells, one, reduceCtorEq, Nat.reduceEqDiff, Int.reduceEq, zc, Tm.part, Nat.reduceLeDiff, Nat.reduceLT, Int.reduceLE, Int.reduceToNat, Nat.reducePow, Int.reducePow, D.upd, splice, buildD, bound, sliceD, c1, cfD, i64]
                refine callX_eq (lim12 (sumA 1 ps) c (.sl 1 x) (by unfold ok64; omega) hc hxf _) ?_
                simp only [zz, leaves, undef, pin, Int.reduceLT, C.lps, C.isLoop, bsliceD, contents, gate, evalI, St.ev, St.put, List.replicate, Nat.reduceSub, Nat.reduceAdd, binJ, lenOfD, ressD, resD, D.ok, D.cells, one, reduceCtorEq, Nat.reduceEqDiff, Int.reduceEq, zc, Tm.part, Nat.reduceLeDiff, Nat.reduceLT, Int.reduceLE, Int.reduceToNat, Nat.reducePow, Int.reducePow, D.upd, splice, buildD, bound, sliceD, i64, n1, c2]
                refine callX_eq (cash27P ps (by omega) _) ?_
                rw [hcash]
                simp only [zz, leaves, undef, pin, Int.reduceLT, C.lps, C.isLoop, bsliceD, contents, gate, evalI, St.ev, St.put, List.replicate, Nat.reduceSub, Nat.reduceAdd, binJ, lenOfD, ressD, resD, D.ok, D.cells, one, reduceCtorEq, Nat.reduceEqDiff, Int.reduceEq, zc, Tm.part, Nat.reduceLeDiff, Nat.reduceLT, Int.reduceLE, Int.reduceToNat, Nat.reducePow, Int.reducePow, D.upd, splice, buildD, bound, sliceD, i64, w1]
                exact At.cut 0 (by repeat (first | exact Subs.refl' _ | refine Subs.cons (Sub.refl _) ?_ | refine Subs.cons (Sub.toDead _) ?_)) rfl
            · simp only [zz, leaves, undef, pin, Int.reduceLT, C.lps, C.isLoop, bsliceD, contents, gate, evalI, St.ev, St.put, List.replicate, Nat.reduceSub, Nat.reduceAdd, binJ, lenOfD, ressD, resD, D.ok, D.cells, one, reduceCtorEq, Nat.reduceEqDiff, Int.reduceEq, zc, Tm.part, Nat.reduceLeDiff, Nat.reduceLT, Int.reduceLE, Int.reduceToNat, Nat.reducePow, Int.reducePow, D.upd, splice, buildD, bound, sliceD, c1]
              refine callX_eq (cash27P ps (by omega) _) ?_
              rw [hcash]
              simp only [zz, leaves, undef, pin, Int.reduceLT, C.lps, C.isLoop, bsliceD, contents, gate, evalI, St.ev, St.put, List.replicate, Nat.reduceSub, Nat.reduceAdd, binJ, lenOfD, ressD, resD, D.ok, D.cells, one, reduceCtorEq, Nat.reduceEqDiff, Int.reduceEq, zc, Tm.part, Nat.reduceLeDiff, Nat.reduceLT, Int.reduceLE, Int.reduceToNat, Nat.reducePow, Int.reducePow, D.upd, splice, buildD, bound, sliceD, i64, w1]
              exact At.cut 0 (by repeat (first | exact Subs.refl' _ | refine Subs.cons (Sub.refl _) ?_ | refine Subs.cons (Sub.toDead _) ?_)) rfl
          · rintro e s' ⟨rfl, hat⟩
            refine T.at hat ⟨Nat.zero_le _, by simp [Ent.below, belows, below, belows_free, below_free, belowsApp, pss_free, bas_free], by simp⟩ ?_
            refine Z.T hmix ?_
            simp only [zz, leaves, undef, pin, Int.reduceLT, C.lps, C.isLoop, bsliceD, contents, gate, evalI, St.ev, St.put, List.replicate, Nat.reduceSub, Nat.reduceAdd, binJ, lenOfD, ressD, resD, D.ok, D.cells, one, reduceCtorEq, Nat.reduceEqDiff, Int.reduceEq]
            refine T.blkI l.length (fun i => ⟨[.sl 4 (l.map baD), .v (.int .i64 to), .dead, .dead, .dead, .dead, .dead, .dead, .dead, .sl 4 (ps.map psD), .dead, .dead, .dead, .v (.int .i64 i), .dead, .dead, .dead, .dead, .dead, .dead, .dead, .dead, .dead, .dead, .dead, .dead, .dead, .dead, .dead, .dead, .dead, .dead, .dead, .dead, .dead, .dead, .dead, .dead, .dead, .dead, .dead, .dead, .dead, .dead, .dead, .dead, .dead, .dead, .dead, .dead, .dead, .dead, .dead, .dead, .dead, .dead, .dead, .dead, .dead, .dead, .dead, .dead, .dead, .dead, .dead, .dead, .dead, .dead, .dead, .dead, .dead, .dead, .dead, .dead, .dead, .dead, .dead, .dead, .dead, .dead, .dead, .dead, .dead, .dead, .dead, .dead, .dead, .dead, .dead, .dead, .dead, .dead, .dead, .dead, .dead, .dead, .dead, .dead, .dead, .dead, .dead, .dead, .dead, .dead, .dead, .dead, .dead, .dead, .dead, .dead, .dead, .dead, .dead, .dead, .dead, .dead, .dead, .dead, .dead, .dead, .dead, .dead, .dead, .dead, .dead, .dead, .dead, .dead, .dead, .dead, .dead, .dead, .dead, .dead, .dead, .dead, .dead, .dead, .dead, .dead, .dead, .dead, .dead, .dead, .dead, .dead, .dead, .dead, .dead, .dead, .dead, .dead, .dead, .dead, .dead, .dead, .dead, .dead, .dead, .dead], []⟩) ?_ ?_ ?_ (by repeat (first | exact stab_S | exact stab_C | exact stab_I | exact stab_M | refine stab_B ?_)) ?_
            · exact At.same _ _ _ (by repeat (first | exact Subs.refl' _ | refine Subs.cons (Sub.refl _) ?_ | refine Subs.cons (Sub.toDead _) ?_))
            · intro i hi
              exact ⟨by simp, by simp [Ent.below, belows, below, belows_free, below_free, belowsApp, pss_free, bas_free], by simp⟩
            · intro i hi
              refine Z.T hmix ?_
              rcases Nat.lt_or_ge i l.length with h | h
              · obtain ⟨g1, g2, g3⟩ := F.got l[i] (List.getElem_mem h)
                have hmb := hf.2.2 l[i] (List.getElem_mem h)
                have hmb' := hmb
                unfold modB mod1 at hmb'
                have a1 := (arW_mod hmb).1
                obtain ⟨n, hn⟩ : ∃ n, l[i].r + sumK 1 l[i].m ps - sumK 2 l[i].m ps = n := ⟨_, rfl⟩
                have hr := fun m => recv32 l[i] ps (by omega) F.bnd hln (fun p hp => (F.each p hp).2) m
                rw [hn] at hr g1 g2 g3
                have k1 := sumK_bnd (k := 1) (m := l[i].m) F.bnd
                have k2 := sumK_bnd (k := 2) (m := l[i].m) F.bnd
                have a2 : arW ⟨l[i].m, l[i].d, n, l[i].w⟩ = max (l[i].d - n) 0 := by
                  unfold arW; simp only; rw [wrapI (by omega)]
                have z1 : ¬ n < 0 := by omega
                have z2 : ¬ arW l[i] < arW ⟨l[i].m, l[i].d, n, l[i].w⟩ := by rw [a1, a2]; omega
                simp only [zz, leaves, undef, pin, Int.reduceLT, C.lps, C.isLoop, bsliceD, contents, gate, evalI, St.ev, St.put, List.replicate, Nat.reduceSub, Nat.reduceAdd, binJ, lenOfD, ressD, resD, D.ok, D.cells, one, reduceCtorEq, Nat.reduceEqDiff, Int.reduceEq, zc, Tm.part, Nat.reduceLeDiff, Nat.reduceLT, Int.reduceLE, Int.reduceToNat, Nat.reducePow, Int.reducePow, D.upd, splice, buildD, bound, sliceD, List.length_map, natlt, h, bas_get h]
                refine callX_eq (hr _) ?_
                simp only [zz, leaves, undef, pin, Int.reduceLT, C.lps, C.isLoop, bsliceD, contents, gate, evalI, St.ev, St.put, List.replicate, Nat.reduceSub, Nat.reduceAdd, binJ, lenOfD, ressD, resD, D.ok, D.cells, one, reduceCtorEq, Nat.reduceEqDiff, Int.reduceEq, zc, Tm.part, Nat.reduceLeDiff, Nat.reduceLT, Int.reduceLE, Int.reduceToNat, Nat.reducePow, Int.reducePow, D.upd, splice, buildD, bound, sliceD, i64, z1]
                refine callQ_eq (fun m => ar33 ⟨l[i].m, l[i].d, n, l[i].w⟩ m) ?_
                simp only [zz, leaves, undef, pin, Int.reduceLT, C.lps, C.isLoop, bsliceD, contents, gate, evalI, St.ev, St.put, List.replicate, Nat.reduceSub, Nat.reduceAdd, binJ, lenOfD, ressD, resD, D.ok, D.cells, one, reduceCtorEq, Nat.reduceEqDiff, Int.reduceEq, zc, Tm.part, Nat.reduceLeDiff, Nat.reduceLT, Int.reduceLE, Int.reduceToNat, Nat.reducePow, Int.reducePow, D.upd, splice, buildD, bound, sliceD, List.length_map, natlt, h, bas_get h]
                refine callQ_eq (fun m => ar33 l[i] m) ?_
                by_cases c3 : l[i].m ≤ to
                · have z3 : arW ⟨l[i].m, l[i].d, n, l[i].w⟩ = 0 := by rw [a2]; exact g3 c3
                  simp only [zz, leaves, undef, pin, Int.reduceLT, C.lps, C.isLoop, bsliceD, contents, gate, evalI, St.ev, St.put, List.replicate, Nat.reduceSub, Nat.reduceAdd, binJ, lenOfD, ressD, resD, D.ok, D.cells, one, reduceCtorEq, Nat.reduceEqDiff, Int.reduceEq, zc, Tm.part, Nat.reduceLeDiff, Nat.reduceLT, Int.reduceLE, Int.reduceToNat, Nat.reducePow, Int.reducePow, D.upd, splice, buildD, bound, sliceD, i64, z2, c3]
                  refine callX_eq (ar33 ⟨l[i].m, l[i].d, n, l[i].w⟩ _) ?_
                  simp only [zz, leaves, undef, pin, Int.reduceLT, C.lps, C.isLoop, bsliceD, contents, gate, evalI, St.ev, St.put, List.replicate, Nat.reduceSub, Nat.reduceAdd, binJ, lenOfD, ressD, resD, D.ok, D.cells, one, reduceCtorEq, Nat.reduceEqDiff, Int.reduceEq, zc, Tm.part, Nat.reduceLeDiff, Nat.reduceLT, Int.reduceLE, Int.reduceToNat, Nat.reducePow, Int.reducePow, D.upd, splice, buildD, bound, sliceD, i64, z3, wrapSu i (by omega), natlt, h]
                  exact At.cut 0 (by repeat (first | exact Subs.refl' _ | refine Subs.cons (Sub.refl _) ?_ | refine Subs.cons (Sub.toDead _) ?_)) rfl
                · simp only [zz, leaves, undef, pin, Int.reduceLT, C.lps, C.isLoop, bsliceD, contents, gate, evalI, St.ev, St.put, List.replicate, Nat.reduceSub, Nat.reduceAdd, binJ, lenOfD, ressD, resD, D.ok, D.cells, one, reduceCtorEq, Nat.reduceEqDiff, Int.reduceEq, zc, Tm.part, Nat.reduceLeDiff, Nat.reduceLT, Int.reduceLE, Int.reduceToNat, Nat.reducePow, Int.reducePow, D.upd, splice, buildD, bound, sliceD, i64, z2, c3, wrapSu i (by omega), natlt, h]
                  exact At.cut 0 (by repeat (first | exact Subs.refl' _ | refine Subs.cons (Sub.refl _) ?_ | refine Subs.cons (Sub.toDead _) ?_)) rfl
              · obtain rfl : i = l.length := by omega
                simp only [zz, leaves, undef, pin, Int.reduceLT, C.lps, C.isLoop, bsliceD, contents, gate, evalI, St.ev, St.put, List.replicate, Nat.reduceSub, Nat.reduceAdd, binJ, lenOfD, ressD, resD, D.ok, D.cells, one, reduceCtorEq, Nat.reduceEqDiff, Int.reduceEq, zc, Tm.part, Nat.reduceLeDiff, Nat.reduceLT, Int.reduceLE, Int.reduceToNat, Nat.reducePow, Int.reducePow, D.upd, splice, buildD, bound, sliceD, List.length_map, natlt, Nat.lt_irrefl]
                exact At.same _ _ _ (by repeat (first | exact Subs.refl' _ | refine Subs.cons (Sub.refl _) ?_ | refine Subs.cons (Sub.toDead _) ?_))
            · simp only [zz, leaves, undef, pin, Int.reduceLT, C.lps, C.isLoop, bsliceD, contents, gate, evalI, St.ev, St.put, List.replicate, Nat.reduceSub, Nat.reduceAdd, binJ, lenOfD, ressD, resD, D.ok, D.cells, one, reduceCtorEq, Nat.reduceEqDiff, Int.reduceEq]
              refine Z.T hmix ?_
              simp only [zz, leaves, undef, pin, Int.reduceLT, C.lps, C.isLoop, bsliceD, contents, gate, evalI, St.ev, St.put, List.replicate, Nat.reduceSub, Nat.reduceAdd, binJ, lenOfD, ressD, resD, D.ok, D.cells, one, reduceCtorEq, Nat.reduceEqDiff, Int.reduceEq]
              refine callX_eq (awake40 _) ?_
              simp only [zz, leaves, undef, pin, Int.reduceLT, C.lps, C.isLoop, bsliceD, contents, gate, evalI, St.ev, St.put, List.replicate, Nat.reduceSub, Nat.reduceAdd, binJ, lenOfD, ressD, resD, D.ok, D.cells, one, reduceCtorEq, Nat.reduceEqDiff, Int.reduceEq]
      · simp only [zz, leaves, undef, pin, Int.reduceLT, C.lps, C.isLoop, bsliceD, contents, gate, evalI, St.ev, St.put, List.replicate, Nat.reduceSub, Nat.reduceAdd, binJ, lenOfD, ressD, resD, D.ok, D.cells, one, reduceCtorEq, Nat.reduceEqDiff, Int.reduceEq, hs]
        refine callX_eq (awake40 _) ?_
        simp only [zz, leaves, undef, pin, Int.reduceLT, C.lps, C.isLoop, bsliceD, contents, gate, evalI, St.ev, St.put, List.replicate, Nat.reduceSub, Nat.reduceAdd, binJ, lenOfD, ressD, resD, D.ok, D.cells, one, reduceCtorEq, Nat.reduceEqDiff, Int.reduceEq]
  · simp only [zz, leaves, undef, pin, Int.reduceLT, C.lps, C.isLoop, bsliceD, contents, gate, evalI, St.ev, St.put, List.replicate, Nat.reduceSub, Nat.reduceAdd, binJ, lenOfD, ressD, resD, D.ok, D.cells, one, reduceCtorEq, Nat.reduceEqDiff, Int.reduceEq, zc, Tm.part, Nat.reduceLeDiff, Nat.reduceLT, Int.reduceLE, Int.reduceToNat, Nat.reducePow, Int.reducePow, D.upd, splice, buildD, bound, sliceD, hf]
    refine callX_eq (awake40 _) ?_
    simp only [zz, leaves, undef, pin, Int.reduceLT, C.lps, C.isLoop, bsliceD, contents, gate, evalI, St.ev, St.put, List.replicate, Nat.reduceSub, Nat.reduceAdd, binJ, lenOfD, ressD, resD, D.ok, D.cells, one, reduceCtorEq, Nat.reduceEqDiff, Int.reduceEq]

theorem lawPayG (d0 d1 d2 d3 : D) (h0 : LookV false (.sl 4 true shPs) d0) (h1 : LookV false (.int .i64) d1) (h2 : LookV true shCf d2) (h3 : LookV false (.sl 1 false (.int .i64)) d3) :
    CallT Try.prog 8 [d0, d1, d2, d3] [] fun d _ => d = .v (.bool true) := by
  obtain ⟨l, -, -, rfl⟩ := arg_bas h0
  obtain ⟨a, ha, rfl⟩ := arg_i64 h1
  obtain ⟨c, x, hc, -, hx, rfl⟩ := arg_cf h2
  obtain ⟨s, -, -, rfl⟩ := arg_ints h3
  exact lawPay l a c x s hc hx

theorem lawScheduleG (d0 d1 d2 : D) (h0 : LookV false (.int .i64) d0) (h1 : LookV false (.int .i64) d1) (h2 : LookV true shCf d2) :
    CallT Try.prog 10 [d0, d1, d2] [] fun d _ => d = .v (.bool true) := by
  obtain ⟨a, ha, rfl⟩ := arg_i64 h0
  obtain ⟨b, hb, rfl⟩ := arg_i64 h1
  obtain ⟨c, x, hc, -, hx, rfl⟩ := arg_cf h2
  exact lawSchedule a b c x ha hb hc hx

theorem lawClearsG (d0 d1 d2 d3 : D) (h0 : LookV false (.sl 4 true shPs) d0) (h1 : LookV false (.int .i64) d1) (h2 : LookV true shCf d2) (h3 : LookV false (.sl 1 false (.int .i64)) d3) :
    CallT Try.prog 11 [d0, d1, d2, d3] [] fun d _ => d = .v (.bool true) := by
  obtain ⟨l, hl, -, rfl⟩ := arg_bas h0
  obtain ⟨a, ha, rfl⟩ := arg_i64 h1
  obtain ⟨c, x, hc, -, hx, rfl⟩ := arg_cf h2
  obtain ⟨s, -, -, rfl⟩ := arg_ints h3
  exact lawClears l a c x s hc hx hl
end Go.Proofs.Ytlfhdejlpnljbaa
