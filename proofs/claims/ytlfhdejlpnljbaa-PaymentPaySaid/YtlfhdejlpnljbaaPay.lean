/-
  payment.Pay and the reference's; PaymentPay on trees.
-/
import Derived.Test.YtlfhdejlpnljbaaPlan
import Derived.Test.YtlfhdejlpnljbaaAwk40
set_option linter.unusedSimpArgs false
set_option linter.unusedVariables false
set_option maxHeartbeats 2000000
namespace Go.Proofs.Ytlfhdejlpnljbaa
open Go.Tm
set_option maxRecDepth 10000

/-- The arrears of a balance. -/
def arW (b : Ba) : Int := max (wrapF .i64 (b.d - b.r)) 0

theorem ar33 (b : Ba) (m : List Ent) : CallT Try.prog 33 [.agg [.v (.int .i64 b.m), .v (.int .i64 b.d), .v (.int .i64 b.r), .v (.int .i64 b.w)]] m fun d m' => d = i64 (arW b) ∧ m' = m := by
  have key : CallT Try.prog 33 [.agg [.v (.int .i64 b.m), .v (.int .i64 b.d), .v (.int .i64 b.r), .v (.int .i64 b.w)]] [] fun d m' => d = i64 (arW b) := by
    refine callT_of k33_ok k33_name (Z.T hmix ?_)
    simp only [k33, k33c, zc, Tm.part, Nat.reduceLeDiff, Nat.reduceLT, Int.reduceLE, Int.reduceToNat, Nat.reducePow, Int.reducePow, D.upd, splice, buildD, bound, sliceD, arW, i64, zz, leaves, undef, pin, Int.reduceLT, C.lps, C.isLoop, bsliceD, contents, gate, evalI, St.ev, St.put, List.replicate, Nat.reduceSub, Nat.reduceAdd, binJ, lenOfD, ressD, resD, D.ok, D.cells, one, reduceCtorEq, Nat.reduceEqDiff, Int.reduceEq]
  exact (callP_of (R := fun d => d = i64 (arW b)) 3 rfl (key.mono fun _ _ h => by rw [h]; rfl) m).mono fun _ _ h => ⟨h.1.1, h.2⟩

theorem ar39 (b : Ba) (m : List Ent) : CallT Try.prog 39 [.agg [.v (.int .i64 b.m), .v (.int .i64 b.d), .v (.int .i64 b.r), .v (.int .i64 b.w)]] m fun d m' => d = i64 (arW b) ∧ m' = m := by
  have key : CallT Try.prog 39 [.agg [.v (.int .i64 b.m), .v (.int .i64 b.d), .v (.int .i64 b.r), .v (.int .i64 b.w)]] [] fun d m' => d = i64 (arW b) := by
    refine callT_of k39_ok k39_name (Z.T hmix ?_)
    simp only [k39, k39c, zc, Tm.part, Nat.reduceLeDiff, Nat.reduceLT, Int.reduceLE, Int.reduceToNat, Nat.reducePow, Int.reducePow, D.upd, splice, buildD, bound, sliceD, arW, i64, zz, leaves, undef, pin, Int.reduceLT, C.lps, C.isLoop, bsliceD, contents, gate, evalI, St.ev, St.put, List.replicate, Nat.reduceSub, Nat.reduceAdd, binJ, lenOfD, ressD, resD, D.ok, D.cells, one, reduceCtorEq, Nat.reduceEqDiff, Int.reduceEq]
  exact (callP_of (R := fun d => d = i64 (arW b)) 3 rfl (key.mono fun _ _ h => by rw [h]; rfl) m).mono fun _ _ h => ⟨h.1.1, h.2⟩

theorem sm23 (c : Cf) (x : List D) (hx : idfrees x = true) (m : List Ent) : CallT Try.prog 23 [cfD c (.sl 1 x)] m fun d m' => d = .v (.bool (decide (x.length ≤ 70))) ∧ m' = m := by
  have hxf : idfree (.sl 1 x) = true := by simpa [idfree] using hx
  have key : CallT Try.prog 23 [cfD c (.sl 1 x)] [] fun d m' => d = .v (.bool (decide (x.length ≤ 70))) := by
    simp only [cfD]
    by_cases h : x.length ≤ 70
    · have h' : ((x.length : Nat) : Int) ≤ 70 := by omega
      refine callT_of k23_ok k23_name (Z.T hmix ?_)
      simp only [k23, k23c, zc, Tm.part, Nat.reduceLeDiff, Nat.reduceLT, Int.reduceLE, Int.reduceToNat, Nat.reducePow, Int.reducePow, D.upd, splice, buildD, bound, sliceD, h, h', zz, leaves, undef, pin, Int.reduceLT, C.lps, C.isLoop, bsliceD, contents, gate, evalI, St.ev, St.put, List.replicate, Nat.reduceSub, Nat.reduceAdd, binJ, lenOfD, ressD, resD, D.ok, D.cells, one, reduceCtorEq, Nat.reduceEqDiff, Int.reduceEq]
    · have h' : ¬ ((x.length : Nat) : Int) ≤ 70 := by omega
      refine callT_of k23_ok k23_name (Z.T hmix ?_)
      simp only [k23, k23c, zc, Tm.part, Nat.reduceLeDiff, Nat.reduceLT, Int.reduceLE, Int.reduceToNat, Nat.reducePow, Int.reducePow, D.upd, splice, buildD, bound, sliceD, h, h', zz, leaves, undef, pin, Int.reduceLT, C.lps, C.isLoop, bsliceD, contents, gate, evalI, St.ev, St.put, List.replicate, Nat.reduceSub, Nat.reduceAdd, binJ, lenOfD, ressD, resD, D.ok, D.cells, one, reduceCtorEq, Nat.reduceEqDiff, Int.reduceEq]
  exact (callP_of (R := fun d => d = .v (.bool (decide (x.length ≤ 70)))) 3 (by simp [idfrees, cf_free c hxf]) (key.mono fun _ _ h => by rw [h]; rfl) m).mono fun _ _ h => ⟨h.1.1, h.2⟩

/-- Is an amount moderate. -/
def mod1 (n : Int) : Prop := ¬ 1000000000000000 < n ∧ ¬ n < -1000000000000000
instance (n : Int) : Decidable (mod1 n) := by unfold mod1; infer_instance
def modB (b : Ba) : Prop := mod1 b.d ∧ mod1 b.r ∧ mod1 b.w
instance (b : Ba) : Decidable (modB b) := by unfold modB; infer_instance
def modP (l : List Ba) (n : Nat) : Prop := l.length ≤ 60 ∧ n ≤ 60 ∧ ∀ b ∈ l, modB b
instance (l : List Ba) (n : Nat) : Decidable (modP l n) := by unfold modP; infer_instance

theorem mod22 (l : List Ba) (s : List Int) (m : List Ent) : CallT Try.prog 22 [basD l, .sl 1 (i64s s)] m fun d m' => d = .v (.bool (decide (modP l s.length))) ∧ m' = m := by
  have key : CallT Try.prog 22 [basD l, .sl 1 (i64s s)] [] fun d m' => d = .v (.bool (decide (modP l s.length))) := by
    simp only [basD]
    by_cases c1 : l.length ≤ 60
    · have c1' : ¬ (60 : Int) < ((l.length : Nat) : Int) := by omega
      by_cases c2 : s.length ≤ 60
      · have c2' : ¬ (60 : Int) < ((s.length : Nat) : Int) := by omega
        refine callT_of k22_ok k22_name (Z.T hmix ?_)
        simp only [k22, k22c, zc, Tm.part, Nat.reduceLeDiff, Nat.reduceLT, Int.reduceLE, Int.reduceToNat, Nat.reducePow, Int.reducePow, D.upd, splice, buildD, bound, sliceD, List.length_map, c1', i64s_len, c2', zz, leaves, undef, pin, Int.reduceLT, C.lps, C.isLoop, bsliceD, contents, gate, evalI, St.ev, St.put, List.replicate, Nat.reduceSub, Nat.reduceAdd, binJ, lenOfD, ressD, resD, D.ok, D.cells, one, reduceCtorEq, Nat.reduceEqDiff, Int.reduceEq]
        refine T.blkM (X := Nat) (fun i => ⟨[.sl 4 (l.map baD), .dead, .dead, .dead, .dead, .v (.int .i64 i), .dead, .dead, .dead, .dead, .dead, .dead, .dead, .dead, .dead, .dead, .dead, .dead, .dead, .dead, .dead, .dead, .dead, .dead, .dead, .dead, .dead, .dead, .dead, .dead, .dead, .dead, .dead, .dead, .dead, .dead, .dead, .dead, .dead, .dead, .dead, .dead, .dead, .dead, .dead, .dead, .dead, .dead, .dead, .dead, .dead, .dead, .dead], []⟩)
          (fun i => i ≤ l.length ∧ ∀ b ∈ l.take i, modB b) (fun _ => modP l s.length) (fun i => l.length - i) 0 ⟨Nat.zero_le _, by simp⟩ ?_ ?_ ?_ (fun _ => by repeat (first | exact stab_S | exact stab_C | exact stab_I | exact stab_M | refine stab_B ?_)) ?_
        · exact At.same _ _ _ (by repeat (first | exact Subs.refl' _ | refine Subs.cons (Sub.refl _) ?_ | refine Subs.cons (Sub.toDead _) ?_))
        · intro i hi
          exact ⟨by simp, by simp [Ent.below, belows, below, belows_free, below_free, belowsApp, bas_free], by simp⟩
        · rintro i ⟨hi, hw⟩
          refine Z.T hmix ?_
          rcases Nat.lt_or_ge i l.length with h | h
          · have no : ¬ modB l[i] → ¬ modP l s.length := fun c hf => c (hf.2.2 _ (List.getElem_mem h))
            by_cases d1 : 1000000000000000 < l[i].d
            · have hf := no fun hh => hh.1.1 d1
              simp only [zz, leaves, undef, pin, Int.reduceLT, C.lps, C.isLoop, bsliceD, contents, gate, evalI, St.ev, St.put, List.replicate, Nat.reduceSub, Nat.reduceAdd, binJ, lenOfD, ressD, resD, D.ok, D.cells, one, reduceCtorEq, Nat.reduceEqDiff, Int.reduceEq, zc, Tm.part, Nat.reduceLeDiff, Nat.reduceLT, Int.reduceLE, Int.reduceToNat, Nat.reducePow, Int.reducePow, D.upd, splice, buildD, bound, sliceD, List.length_map, natlt, h, bas_get h, d1, hf]
            by_cases d2 : l[i].d < -1000000000000000
            · have hf := no fun hh => hh.1.2 d2
              simp only [zz, leaves, undef, pin, Int.reduceLT, C.lps, C.isLoop, bsliceD, contents, gate, evalI, St.ev, St.put, List.replicate, Nat.reduceSub, Nat.reduceAdd, binJ, lenOfD, ressD, resD, D.ok, D.cells, one, reduceCtorEq, Nat.reduceEqDiff, Int.reduceEq, zc, Tm.part, Nat.reduceLeDiff, Nat.reduceLT, Int.reduceLE, Int.reduceToNat, Nat.reducePow, Int.reducePow, D.upd, splice, buildD, bound, sliceD, List.length_map, natlt, h, bas_get h, d1, d2, hf]
            by_cases d3 : 1000000000000000 < l[i].r
            · have hf := no fun hh => hh.2.1.1 d3
              simp only [zz, leaves, undef, pin, Int.reduceLT, C.lps, C.isLoop, bsliceD, contents, gate, evalI, St.ev, St.put, List.replicate, Nat.reduceSub, Nat.reduceAdd, binJ, lenOfD, ressD, resD, D.ok, D.cells, one, reduceCtorEq, Nat.reduceEqDiff, Int.reduceEq, zc, Tm.part, Nat.reduceLeDiff, Nat.reduceLT, Int.reduceLE, Int.reduceToNat, Nat.reducePow, Int.reducePow, D.upd, splice, buildD, bound, sliceD, List.length_map, natlt, h, bas_get h, d1, d2, d3, hf]
            by_cases d4 : l[i].r < -1000000000000000
            · have hf := no fun hh => hh.2.1.2 d4
              simp only [zz, leaves, undef, pin, Int.reduceLT, C.lps, C.isLoop, bsliceD, contents, gate, evalI, St.ev, St.put, List.replicate, Nat.reduceSub, Nat.reduceAdd, binJ, lenOfD, ressD, resD, D.ok, D.cells, one, reduceCtorEq, Nat.reduceEqDiff, Int.reduceEq, zc, Tm.part, Nat.reduceLeDiff, Nat.reduceLT, Int.reduceLE, Int.reduceToNat, Nat.reducePow, Int.reducePow, D.upd, splice, buildD, bound, sliceD, List.length_map, natlt, h, bas_get h, d1, d2, d3, d4, hf]
            by_cases d5 : 1000000000000000 < l[i].w
            · have hf := no fun hh => hh.2.2.1 d5
              simp only [zz, leaves, undef, pin, Int.reduceLT, C.lps, C.isLoop, bsliceD, contents, gate, evalI, St.ev, St.put, List.replicate, Nat.reduceSub, Nat.reduceAdd, binJ, lenOfD, ressD, resD, D.ok, D.cells, one, reduceCtorEq, Nat.reduceEqDiff, Int.reduceEq, zc, Tm.part, Nat.reduceLeDiff, Nat.reduceLT, Int.reduceLE, Int.reduceToNat, Nat.reducePow, Int.reducePow, D.upd, splice, buildD, bound, sliceD, List.length_map, natlt, h, bas_get h, d1, d2, d3, d4, d5, hf]
            by_cases d6 : l[i].w < -1000000000000000
            · have hf := no fun hh => hh.2.2.2 d6
              simp only [zz, leaves, undef, pin, Int.reduceLT, C.lps, C.isLoop, bsliceD, contents, gate, evalI, St.ev, St.put, List.replicate, Nat.reduceSub, Nat.reduceAdd, binJ, lenOfD, ressD, resD, D.ok, D.cells, one, reduceCtorEq, Nat.reduceEqDiff, Int.reduceEq, zc, Tm.part, Nat.reduceLeDiff, Nat.reduceLT, Int.reduceLE, Int.reduceToNat, Nat.reducePow, Int.reducePow, D.upd, splice, buildD, bound, sliceD, List.length_map, natlt, h, bas_get h, d1, d2, d3, d4, d5, d6, hf]
            simp only [zz, leaves, undef, pin, Int.reduceLT, C.lps, C.isLoop, bsliceD, contents, gate, evalI, St.ev, St.put, List.replicate, Nat.reduceSub, Nat.reduceAdd, binJ, lenOfD, ressD, resD, D.ok, D.cells, one, reduceCtorEq, Nat.reduceEqDiff, Int.reduceEq, zc, Tm.part, Nat.reduceLeDiff, Nat.reduceLT, Int.reduceLE, Int.reduceToNat, Nat.reducePow, Int.reducePow, D.upd, splice, buildD, bound, sliceD, List.length_map, natlt, h, bas_get h, d1, d2, d3, d4, d5, d6, wrapSu i (by omega)]
            refine ⟨i + 1, ⟨h, ?_⟩, by show l.length - (i + 1) < l.length - i; omega, At.cut 0 (by repeat (first | exact Subs.refl' _ | refine Subs.cons (Sub.refl _) ?_ | refine Subs.cons (Sub.toDead _) ?_)) rfl⟩
            rw [List.take_succ_eq_append_getElem h]
            intro b hb
            rcases List.mem_append.1 hb with hb | hb
            · exact hw b hb
            · rw [List.mem_singleton.1 hb]; exact ⟨⟨d1, d2⟩, ⟨d3, d4⟩, d5, d6⟩
          · obtain rfl : i = l.length := by omega
            rw [List.take_length] at hw
            simp only [zz, leaves, undef, pin, Int.reduceLT, C.lps, C.isLoop, bsliceD, contents, gate, evalI, St.ev, St.put, List.replicate, Nat.reduceSub, Nat.reduceAdd, binJ, lenOfD, ressD, resD, D.ok, D.cells, one, reduceCtorEq, Nat.reduceEqDiff, Int.reduceEq, zc, Tm.part, Nat.reduceLeDiff, Nat.reduceLT, Int.reduceLE, Int.reduceToNat, Nat.reducePow, Int.reducePow, D.upd, splice, buildD, bound, sliceD, List.length_map, natlt, Nat.lt_irrefl]
            exact ⟨_, ⟨c1, c2, hw⟩, At.same _ _ _ (by repeat (first | exact Subs.refl' _ | refine Subs.cons (Sub.refl _) ?_ | refine Subs.cons (Sub.toDead _) ?_))⟩
        · intro i hf
          simp only [zz, leaves, undef, pin, Int.reduceLT, C.lps, C.isLoop, bsliceD, contents, gate, evalI, St.ev, St.put, List.replicate, Nat.reduceSub, Nat.reduceAdd, binJ, lenOfD, ressD, resD, D.ok, D.cells, one, reduceCtorEq, Nat.reduceEqDiff, Int.reduceEq]
          refine Z.T hmix ?_
          simp only [zz, leaves, undef, pin, Int.reduceLT, C.lps, C.isLoop, bsliceD, contents, gate, evalI, St.ev, St.put, List.replicate, Nat.reduceSub, Nat.reduceAdd, binJ, lenOfD, ressD, resD, D.ok, D.cells, one, reduceCtorEq, Nat.reduceEqDiff, Int.reduceEq, hf]
      · have c2' : (60 : Int) < ((s.length : Nat) : Int) := by omega
        have hf : ¬ modP l s.length := fun h => c2 h.2.1
        refine callT_of k22_ok k22_name (Z.T hmix ?_)
        simp only [k22, k22c, zc, Tm.part, Nat.reduceLeDiff, Nat.reduceLT, Int.reduceLE, Int.reduceToNat, Nat.reducePow, Int.reducePow, D.upd, splice, buildD, bound, sliceD, List.length_map, c1', i64s_len, c2', hf, zz, leaves, undef, pin, Int.reduceLT, C.lps, C.isLoop, bsliceD, contents, gate, evalI, St.ev, St.put, List.replicate, Nat.reduceSub, Nat.reduceAdd, binJ, lenOfD, ressD, resD, D.ok, D.cells, one, reduceCtorEq, Nat.reduceEqDiff, Int.reduceEq]
    · have c1' : (60 : Int) < ((l.length : Nat) : Int) := by omega
      have hf : ¬ modP l s.length := fun h => c1 h.1
      refine callT_of k22_ok k22_name (Z.T hmix ?_)
      simp only [k22, k22c, zc, Tm.part, Nat.reduceLeDiff, Nat.reduceLT, Int.reduceLE, Int.reduceToNat, Nat.reducePow, Int.reducePow, D.upd, splice, buildD, bound, sliceD, List.length_map, c1', hf, zz, leaves, undef, pin, Int.reduceLT, C.lps, C.isLoop, bsliceD, contents, gate, evalI, St.ev, St.put, List.replicate, Nat.reduceSub, Nat.reduceAdd, binJ, lenOfD, ressD, resD, D.ok, D.cells, one, reduceCtorEq, Nat.reduceEqDiff, Int.reduceEq]
  exact (callP_of (R := fun d => d = .v (.bool (decide (modP l s.length)))) 3 (by simp [idfrees, idfree, basD, bas_free, i64s_free]) (key.mono fun _ _ h => by rw [h]; rfl) m).mono fun _ _ h => ⟨h.1.1, h.2⟩

/-- One balance more to pay. -/
def pstep (to date : Int) (s : List Ps × Int) (b : Ba) : List Ps × Int :=
  if to < b.m ∨ arW b ≤ 0 then s else (s.1 ++ [⟨date, b.m, 1, arW b⟩], s.2 + arW b)
def psti (to date : Int) (l : List Ba) (i : Nat) : List Ps × Int := (l.take i).foldl (pstep to date) ([], 0)
theorem psti_succ {to date : Int} {l : List Ba} {i : Nat} (h : i < l.length) : psti to date l (i + 1) = pstep to date (psti to date l i) l[i] := foldl_take _ _ l h
theorem arW_mod {b : Ba} (h : modB b) : arW b = max (b.d - b.r) 0 ∧ 0 ≤ arW b ∧ arW b ≤ 2000000000000000 := by
  unfold modB mod1 at h
  unfold arW
  rw [wrapI (by omega)]
  omega
theorem psti_ok {to date : Int} {l : List Ba} (h : ∀ b ∈ l, modB b) : ∀ i, i ≤ l.length → (psti to date l i).1.length ≤ i ∧ 0 ≤ (psti to date l i).2 ∧ (psti to date l i).2 ≤ 2000000000000000 * (i : Int)
  | 0, _ => by simp [psti]
  | i + 1, hi => by
    rw [psti_succ (by omega)]
    obtain ⟨k1, k2, k3⟩ := psti_ok (to := to) (date := date) h i (by omega)
    obtain ⟨_, a1, a2⟩ := arW_mod (h l[i] (List.getElem_mem (by omega)))
    unfold pstep
    split
    · omega
    · simp only [List.length_append, List.length_cons, List.length_nil]; omega

/-- The postings of a payment. -/
def payS (to date : Int) (c : Cf) (st : Int → Bool) (l : List Ba) : List Ps :=
  (psti to date l l.length).1 ++ (dist st date 2 l (limS (psti to date l l.length).2 c.cap c.floor)).1

theorem pay25 (l : List Ba) (to : Int) (c : Cf) (x : D) (date : Int) (s : List Int) (hl : modP l s.length) (hc : c.Ok) (hx : idfree x = true) (m : List Ent) :
    CallT Try.prog 25 [basD l, i64 to, cfD c x, i64 date, .sl 1 (i64s s)] m fun d m' => d = pssD (payS to date c (stOf s) l) ∧ m' = m := by
  have hcf := cf_free c hx
  have hlen := hl.1
  have hsl := hl.2.1
  have hall := psti_ok (to := to) (date := date) hl.2.2
  have key : CallT Try.prog 25 [basD l, i64 to, cfD c x, i64 date, .sl 1 (i64s s)] [] fun d m' => froz 3 m' d = pssD (payS to date c (stOf s) l) := by
    simp only [basD, i64]
    refine callT_of k25_ok k25_name ?_
    simp only [k25, k25c]
    refine T.clo ?_
    refine T.seqS (Z.T hmix ?_)
    simp only [zz, leaves, undef, pin, Int.reduceLT, C.lps, C.isLoop, bsliceD, contents, gate, evalI, St.ev, St.put, List.replicate, Nat.reduceSub, Nat.reduceAdd, binJ, lenOfD, ressD, resD, D.ok, D.cells, one, reduceCtorEq, Nat.reduceEqDiff, Int.reduceEq, zc, Tm.part, Nat.reduceLeDiff, Nat.reduceLT, Int.reduceLE, Int.reduceToNat, Nat.reducePow, Int.reducePow, D.upd, splice, buildD, bound, sliceD, cfD, i64]
    refine T.seqS (Z.T hmix ?_)
    simp only [zz, leaves, undef, pin, Int.reduceLT, C.lps, C.isLoop, bsliceD, contents, gate, evalI, St.ev, St.put, List.replicate, Nat.reduceSub, Nat.reduceAdd, binJ, lenOfD, ressD, resD, D.ok, D.cells, one, reduceCtorEq, Nat.reduceEqDiff, Int.reduceEq, zc, Tm.part, Nat.reduceLeDiff, Nat.reduceLT, Int.reduceLE, Int.reduceToNat, Nat.reducePow, Int.reducePow, D.upd, splice, buildD, bound, sliceD]
    refine T.adopt 11 4 rfl ?_
    refine Z.T hmix ?_
    simp only [zz, leaves, undef, pin, Int.reduceLT, C.lps, C.isLoop, bsliceD, contents, gate, evalI, St.ev, St.put, List.replicate, Nat.reduceSub, Nat.reduceAdd, binJ, lenOfD, ressD, resD, D.ok, D.cells, one, reduceCtorEq, Nat.reduceEqDiff, Int.reduceEq, zc, Tm.part, Nat.reduceLeDiff, Nat.reduceLT, Int.reduceLE, Int.reduceToNat, Nat.reducePow, Int.reducePow, D.upd, splice, buildD, bound, sliceD, List.length_map]
    refine T.blkI l.length (fun i => ⟨[.sl 4 (l.map baD), .v (.int .i64 to), .dead, .v (.int .i64 date), .sl 1 (i64s s), .dead, .dead, .ref 0 0 0 0, .dead, .dead, .dead, .own 1 (psti to date l i).1.length, .v (.int .i64 (psti to date l i).2), .dead, .dead, .dead, .sl 4 (l.map baD), .v (.int .i64 l.length), .v (.int .i64 i), .dead, .dead, .dead, .dead, .dead, .dead, .dead, .dead, .dead, .dead, .dead, .dead, .dead, .dead, .dead, .dead, .dead, .dead, .dead, .dead, .dead, .dead, .dead, .dead, .dead, .dead, .dead, .dead, .dead, .dead, .dead, .dead, .dead],
      [.live 9 0 [cfD c x], .live 4 (psti to date l i).1.length ((psti to date l i).1.map psD)]⟩) ?_ ?_ ?_ (by repeat (first | exact stab_S | exact stab_C | exact stab_I | exact stab_M | refine stab_B ?_)) ?_
    · exact At.cut 2 (by repeat (first | exact Subs.refl' _ | refine Subs.cons (Sub.refl _) ?_ | refine Subs.cons (Sub.toDead _) ?_)) rfl
    · intro i hi
      exact ⟨by simp, by simp [belows, below, belows_free, bas_free, i64s_free], by simp [Ent.below, belows, below_free _ _ hcf, belows_free, pss_free]⟩
    · intro i hi
      refine Z.T hmix ?_
      rcases Nat.lt_or_ge i l.length with h | h
      · have hs := psti_succ (to := to) (date := date) h
        obtain ⟨k1, k2, k3⟩ := hall i hi
        obtain ⟨_, a1, a2⟩ := arW_mod (hl.2.2 l[i] (List.getElem_mem h))
        obtain ⟨p, hp⟩ : ∃ p, psti to date l i = p := ⟨_, rfl⟩
        rw [hp] at hs k1 k2 k3
        simp only [hp, zz, leaves, undef, pin, Int.reduceLT, C.lps, C.isLoop, bsliceD, contents, gate, evalI, St.ev, St.put, List.replicate, Nat.reduceSub, Nat.reduceAdd, binJ, lenOfD, ressD, resD, D.ok, D.cells, one, reduceCtorEq, Nat.reduceEqDiff, Int.reduceEq, zc, Tm.part, Nat.reduceLeDiff, Nat.reduceLT, Int.reduceLE, Int.reduceToNat, Nat.reducePow, Int.reducePow, D.upd, splice, buildD, bound, sliceD, natlt, h, bas_get h]
        refine callX_eq (ar33 _ _) ?_
        by_cases c1 : to < l[i].m
        · have hs' : pstep to date p l[i] = p := if_pos (.inl c1)
          simp only [zz, leaves, undef, pin, Int.reduceLT, C.lps, C.isLoop, bsliceD, contents, gate, evalI, St.ev, St.put, List.replicate, Nat.reduceSub, Nat.reduceAdd, binJ, lenOfD, ressD, resD, D.ok, D.cells, one, reduceCtorEq, Nat.reduceEqDiff, Int.reduceEq, zc, Tm.part, Nat.reduceLeDiff, Nat.reduceLT, Int.reduceLE, Int.reduceToNat, Nat.reducePow, Int.reducePow, D.upd, splice, buildD, bound, sliceD, i64, c1, wrapSu i (by omega), h]
          exact At.cut 2 (by rw [hs, hs']; repeat (first | exact Subs.refl' _ | refine Subs.cons (Sub.refl _) ?_ | refine Subs.cons (Sub.toDead _) ?_)) (by rw [hs, hs']; rfl)
        · by_cases c2 : arW l[i] ≤ 0
          · have hs' : pstep to date p l[i] = p := if_pos (.inr c2)
            simp only [zz, leaves, undef, pin, Int.reduceLT, C.lps, C.isLoop, bsliceD, contents, gate, evalI, St.ev, St.put, List.replicate, Nat.reduceSub, Nat.reduceAdd, binJ, lenOfD, ressD, resD, D.ok, D.cells, one, reduceCtorEq, Nat.reduceEqDiff, Int.reduceEq, zc, Tm.part, Nat.reduceLeDiff, Nat.reduceLT, Int.reduceLE, Int.reduceToNat, Nat.reducePow, Int.reducePow, D.upd, splice, buildD, bound, sliceD, i64, c1, c2, wrapSu i (by omega), h]
            exact At.cut 2 (by rw [hs, hs']; repeat (first | exact Subs.refl' _ | refine Subs.cons (Sub.refl _) ?_ | refine Subs.cons (Sub.toDead _) ?_)) (by rw [hs, hs']; rfl)
          · have hs' : pstep to date p l[i] = (p.1 ++ [⟨date, l[i].m, 1, arW l[i]⟩], p.2 + arW l[i]) := if_neg (by simp only [not_or]; exact ⟨c1, c2⟩)
            have hw : wrapF .i64 (p.2 + arW l[i]) = p.2 + arW l[i] := wrapI (by omega)
            have hcap : (p.1.length + 1) * 32 ≤ 140737488355328 := by omega
            simp only [zz, leaves, undef, pin, Int.reduceLT, C.lps, C.isLoop, bsliceD, contents, gate, evalI, St.ev, St.put, List.replicate, Nat.reduceSub, Nat.reduceAdd, binJ, lenOfD, ressD, resD, D.ok, D.cells, one, reduceCtorEq, Nat.reduceEqDiff, Int.reduceEq, zc, Tm.part, Nat.reduceLeDiff, Nat.reduceLT, Int.reduceLE, Int.reduceToNat, Nat.reducePow, Int.reducePow, D.upd, splice, buildD, bound, sliceD, i64, c1, c2, wrapSu i (by omega), h, List.length_map, hcap, hw]
            refine At.cut 2 ?_ ?_
            · rw [hs, hs']
              simp only [List.length_append, List.length_cons, List.length_nil, Nat.zero_add]
              repeat (first | exact Subs.refl' _ | refine Subs.cons (Sub.refl _) ?_ | refine Subs.cons (Sub.toDead _) ?_)
            · rw [hs, hs']
              simp only [List.map_append, List.map_cons, List.map_nil, List.length_append, List.length_cons, List.length_nil, Nat.zero_add]
              rfl
      · obtain rfl : i = l.length := by omega
        simp only [zz, leaves, undef, pin, Int.reduceLT, C.lps, C.isLoop, bsliceD, contents, gate, evalI, St.ev, St.put, List.replicate, Nat.reduceSub, Nat.reduceAdd, binJ, lenOfD, ressD, resD, D.ok, D.cells, one, reduceCtorEq, Nat.reduceEqDiff, Int.reduceEq, zc, Tm.part, Nat.reduceLeDiff, Nat.reduceLT, Int.reduceLE, Int.reduceToNat, Nat.reducePow, Int.reducePow, D.upd, splice, buildD, bound, sliceD, natlt, Nat.lt_irrefl]
        exact At.same _ _ _ (by repeat (first | exact Subs.refl' _ | refine Subs.cons (Sub.refl _) ?_ | refine Subs.cons (Sub.toDead _) ?_))
    · obtain ⟨k1, k2, k3⟩ := hall l.length (Nat.le_refl _)
      unfold payS
      obtain ⟨p, hp⟩ : ∃ p, psti to date l l.length = p := ⟨_, rfl⟩
      rw [hp] at k1 k2 k3 ⊢
      simp only [zz, leaves, undef, pin, Int.reduceLT, C.lps, C.isLoop, bsliceD, contents, gate, evalI, St.ev, St.put, List.replicate, Nat.reduceSub, Nat.reduceAdd, binJ, lenOfD, ressD, resD, D.ok, D.cells, one, reduceCtorEq, Nat.reduceEqDiff, Int.reduceEq]
      refine Z.T hmix ?_
      simp only [zz, leaves, undef, pin, Int.reduceLT, C.lps, C.isLoop, bsliceD, contents, gate, evalI, St.ev, St.put, List.replicate, Nat.reduceSub, Nat.reduceAdd, binJ, lenOfD, ressD, resD, D.ok, D.cells, one, reduceCtorEq, Nat.reduceEqDiff, Int.reduceEq, zc, Tm.part, Nat.reduceLeDiff, Nat.reduceLT, Int.reduceLE, Int.reduceToNat, Nat.reducePow, Int.reducePow, D.upd, splice, buildD, bound, sliceD, cfD, i64]
      refine callX_eq (plan17 l p.2 c x date s (by omega) (by omega) (by unfold ok64; omega) hc hx _) ?_
      have hdl := dist_lenS (stOf s) date 2 l (limS p.2 c.cap c.floor)
      obtain ⟨q, hq⟩ : ∃ q, (dist (stOf s) date 2 l (limS p.2 c.cap c.floor)).1 = q := ⟨_, rfl⟩
      rw [hq] at hdl ⊢
      have hcap : (p.1.length + q.length) * 32 ≤ 140737488355328 := by omega
      simp only [zz, leaves, undef, pin, Int.reduceLT, C.lps, C.isLoop, bsliceD, contents, gate, evalI, St.ev, St.put, List.replicate, Nat.reduceSub, Nat.reduceAdd, binJ, lenOfD, ressD, resD, D.ok, D.cells, one, reduceCtorEq, Nat.reduceEqDiff, Int.reduceEq, zc, Tm.part, Nat.reduceLeDiff, Nat.reduceLT, Int.reduceLE, Int.reduceToNat, Nat.reducePow, Int.reducePow, D.upd, splice, buildD, bound, sliceD, pssD, List.length_map, hcap]
      refine Clo.of ?_
      simp only [zz, leaves, undef, pin, Int.reduceLT, C.lps, C.isLoop, bsliceD, contents, gate, evalI, St.ev, St.put, List.replicate, Nat.reduceSub, Nat.reduceAdd, binJ, lenOfD, ressD, resD, D.ok, D.cells, one, reduceCtorEq, Nat.reduceEqDiff, Int.reduceEq]
      rw [froz_own rfl (idfreesA (pss_free _) (pss_free _)), List.map_append]
  exact (callP_of (R := fun d => d = pssD (payS to date c (stOf s) l)) 3 (by simp [idfrees, idfree, basD, bas_free, i64, hcf, i64s_free]) key m).mono fun _ _ h => ⟨h.1.1, h.2⟩
theorem pay26 (l : List Ba) (to : Int) (c : Cf) (x : D) (date : Int) (s : List Int) (hl : modP l s.length) (hc : c.Ok) (hx : idfree x = true) (m : List Ent) :
    CallT Try.prog 26 [basD l, i64 to, cfD c x, i64 date, .sl 1 (i64s s)] m fun d m' => d = pssD (payS to date c (stOf s) l) ∧ m' = m := by
  have hcf := cf_free c hx
  have hlen := hl.1
  have hsl := hl.2.1
  have hall := psti_ok (to := to) (date := date) hl.2.2
  have key : CallT Try.prog 26 [basD l, i64 to, cfD c x, i64 date, .sl 1 (i64s s)] [] fun d m' => froz 3 m' d = pssD (payS to date c (stOf s) l) := by
    simp only [basD, i64]
    refine callT_of k26_ok k26_name ?_
    simp only [k26, k26c]
    refine T.clo ?_
    refine T.seqS (Z.T hmix ?_)
    simp only [zz, leaves, undef, pin, Int.reduceLT, C.lps, C.isLoop, bsliceD, contents, gate, evalI, St.ev, St.put, List.replicate, Nat.reduceSub, Nat.reduceAdd, binJ, lenOfD, ressD, resD, D.ok, D.cells, one, reduceCtorEq, Nat.reduceEqDiff, Int.reduceEq, zc, Tm.part, Nat.reduceLeDiff, Nat.reduceLT, Int.reduceLE, Int.reduceToNat, Nat.reducePow, Int.reducePow, D.upd, splice, buildD, bound, sliceD, cfD, i64]
    refine T.seqS (Z.T hmix ?_)
    simp only [zz, leaves, undef, pin, Int.reduceLT, C.lps, C.isLoop, bsliceD, contents, gate, evalI, St.ev, St.put, List.replicate, Nat.reduceSub, Nat.reduceAdd, binJ, lenOfD, ressD, resD, D.ok, D.cells, one, reduceCtorEq, Nat.reduceEqDiff, Int.reduceEq, zc, Tm.part, Nat.reduceLeDiff, Nat.reduceLT, Int.reduceLE, Int.reduceToNat, Nat.reducePow, Int.reducePow, D.upd, splice, buildD, bound, sliceD]
    refine T.adopt 11 4 rfl ?_
    refine Z.T hmix ?_
    simp only [zz, leaves, undef, pin, Int.reduceLT, C.lps, C.isLoop, bsliceD, contents, gate, evalI, St.ev, St.put, List.replicate, Nat.reduceSub, Nat.reduceAdd, binJ, lenOfD, ressD, resD, D.ok, D.cells, one, reduceCtorEq, Nat.reduceEqDiff, Int.reduceEq, zc, Tm.part, Nat.reduceLeDiff, Nat.reduceLT, Int.reduceLE, Int.reduceToNat, Nat.reducePow, Int.reducePow, D.upd, splice, buildD, bound, sliceD, List.length_map]
    refine T.blkI l.length (fun i => ⟨[.sl 4 (l.map baD), .v (.int .i64 to), .dead, .v (.int .i64 date), .sl 1 (i64s s), .dead, .dead, .ref 0 0 0 0, .dead, .dead, .dead, .own 1 (psti to date l i).1.length, .v (.int .i64 (psti to date l i).2), .v (.int .i64 i), .dead, .dead, .dead, .dead, .dead, .dead, .dead, .dead, .dead, .dead, .dead, .dead, .dead, .dead, .dead, .dead, .dead, .dead, .dead, .dead, .dead, .dead, .dead, .dead, .dead, .dead, .dead, .dead, .dead, .dead, .dead, .dead, .dead, .dead, .dead, .dead, .dead, .dead, .dead, .dead, .dead, .dead, .dead, .dead, .dead, .dead],
      [.live 9 0 [cfD c x], .live 4 (psti to date l i).1.length ((psti to date l i).1.map psD)]⟩) ?_ ?_ ?_ (by repeat (first | exact stab_S | exact stab_C | exact stab_I | exact stab_M | refine stab_B ?_)) ?_
    · exact At.cut 2 (by repeat (first | exact Subs.refl' _ | refine Subs.cons (Sub.refl _) ?_ | refine Subs.cons (Sub.toDead _) ?_)) rfl
    · intro i hi
      exact ⟨by simp, by simp [belows, below, belows_free, bas_free, i64s_free], by simp [Ent.below, belows, below_free _ _ hcf, belows_free, pss_free]⟩
    · intro i hi
      refine Z.T hmix ?_
      rcases Nat.lt_or_ge i l.length with h | h
      · have hs := psti_succ (to := to) (date := date) h
        obtain ⟨k1, k2, k3⟩ := hall i hi
        obtain ⟨_, a1, a2⟩ := arW_mod (hl.2.2 l[i] (List.getElem_mem h))
        obtain ⟨p, hp⟩ : ∃ p, psti to date l i = p := ⟨_, rfl⟩
        rw [hp] at hs k1 k2 k3
        simp only [hp, zz, leaves, undef, pin, Int.reduceLT, C.lps, C.isLoop, bsliceD, contents, gate, evalI, St.ev, St.put, List.replicate, Nat.reduceSub, Nat.reduceAdd, binJ, lenOfD, ressD, resD, D.ok, D.cells, one, reduceCtorEq, Nat.reduceEqDiff, Int.reduceEq, zc, Tm.part, Nat.reduceLeDiff, Nat.reduceLT, Int.reduceLE, Int.reduceToNat, Nat.reducePow, Int.reducePow, D.upd, splice, buildD, bound, sliceD, natlt, h, bas_get h, List.length_map]
        refine callX_eq (ar39 _ _) ?_
        by_cases c1 : l[i].m ≤ to
        · by_cases c2 : 0 < arW l[i]
          · have hs' : pstep to date p l[i] = (p.1 ++ [⟨date, l[i].m, 1, arW l[i]⟩], p.2 + arW l[i]) := if_neg (by omega)
            have hw : wrapF .i64 (p.2 + arW l[i]) = p.2 + arW l[i] := wrapI (by omega)
            have hcap : (p.1.length + 1) * 32 ≤ 140737488355328 := by omega
            simp only [zz, leaves, undef, pin, Int.reduceLT, C.lps, C.isLoop, bsliceD, contents, gate, evalI, St.ev, St.put, List.replicate, Nat.reduceSub, Nat.reduceAdd, binJ, lenOfD, ressD, resD, D.ok, D.cells, one, reduceCtorEq, Nat.reduceEqDiff, Int.reduceEq, zc, Tm.part, Nat.reduceLeDiff, Nat.reduceLT, Int.reduceLE, Int.reduceToNat, Nat.reducePow, Int.reducePow, D.upd, splice, buildD, bound, sliceD, i64, c1, c2, wrapSu i (by omega), natlt, h, bas_get h, List.length_map, hcap, hw]
            refine At.cut 2 ?_ ?_
            · rw [hs, hs']
              simp only [List.length_append, List.length_cons, List.length_nil, Nat.zero_add]
              repeat (first | exact Subs.refl' _ | refine Subs.cons (Sub.refl _) ?_ | refine Subs.cons (Sub.toDead _) ?_)
            · rw [hs, hs']
              simp only [List.map_append, List.map_cons, List.map_nil, List.length_append, List.length_cons, List.length_nil, Nat.zero_add]
              rfl
          · have hs' : pstep to date p l[i] = p := if_pos (.inr (by omega))
            simp only [zz, leaves, undef, pin, Int.reduceLT, C.lps, C.isLoop, bsliceD, contents, gate, evalI, St.ev, St.put, List.replicate, Nat.reduceSub, Nat.reduceAdd, binJ, lenOfD, ressD, resD, D.ok, D.cells, one, reduceCtorEq, Nat.reduceEqDiff, Int.reduceEq, zc, Tm.part, Nat.reduceLeDiff, Nat.reduceLT, Int.reduceLE, Int.reduceToNat, Nat.reducePow, Int.reducePow, D.upd, splice, buildD, bound, sliceD, i64, c1, c2, wrapSu i (by omega), natlt, h, bas_get h]
            exact At.cut 2 (by rw [hs, hs']; repeat (first | exact Subs.refl' _ | refine Subs.cons (Sub.refl _) ?_ | refine Subs.cons (Sub.toDead _) ?_)) (by rw [hs, hs']; rfl)
        · have hs' : pstep to date p l[i] = p := if_pos (.inl (by omega))
          simp only [zz, leaves, undef, pin, Int.reduceLT, C.lps, C.isLoop, bsliceD, contents, gate, evalI, St.ev, St.put, List.replicate, Nat.reduceSub, Nat.reduceAdd, binJ, lenOfD, ressD, resD, D.ok, D.cells, one, reduceCtorEq, Nat.reduceEqDiff, Int.reduceEq, zc, Tm.part, Nat.reduceLeDiff, Nat.reduceLT, Int.reduceLE, Int.reduceToNat, Nat.reducePow, Int.reducePow, D.upd, splice, buildD, bound, sliceD, i64, c1, wrapSu i (by omega), natlt, h, bas_get h]
          exact At.cut 2 (by rw [hs, hs']; repeat (first | exact Subs.refl' _ | refine Subs.cons (Sub.refl _) ?_ | refine Subs.cons (Sub.toDead _) ?_)) (by rw [hs, hs']; rfl)
      · obtain rfl : i = l.length := by omega
        simp only [zz, leaves, undef, pin, Int.reduceLT, C.lps, C.isLoop, bsliceD, contents, gate, evalI, St.ev, St.put, List.replicate, Nat.reduceSub, Nat.reduceAdd, binJ, lenOfD, ressD, resD, D.ok, D.cells, one, reduceCtorEq, Nat.reduceEqDiff, Int.reduceEq, zc, Tm.part, Nat.reduceLeDiff, Nat.reduceLT, Int.reduceLE, Int.reduceToNat, Nat.reducePow, Int.reducePow, D.upd, splice, buildD, bound, sliceD, List.length_map, natlt, Nat.lt_irrefl]
        exact At.same _ _ _ (by repeat (first | exact Subs.refl' _ | refine Subs.cons (Sub.refl _) ?_ | refine Subs.cons (Sub.toDead _) ?_))
    · obtain ⟨k1, k2, k3⟩ := hall l.length (Nat.le_refl _)
      unfold payS
      obtain ⟨p, hp⟩ : ∃ p, psti to date l l.length = p := ⟨_, rfl⟩
      rw [hp] at k1 k2 k3 ⊢
      simp only [zz, leaves, undef, pin, Int.reduceLT, C.lps, C.isLoop, bsliceD, contents, gate, evalI, St.ev, St.put, List.replicate, Nat.reduceSub, Nat.reduceAdd, binJ, lenOfD, ressD, resD, D.ok, D.cells, one, reduceCtorEq, Nat.reduceEqDiff, Int.reduceEq]
      refine Z.T hmix ?_
      simp only [zz, leaves, undef, pin, Int.reduceLT, C.lps, C.isLoop, bsliceD, contents, gate, evalI, St.ev, St.put, List.replicate, Nat.reduceSub, Nat.reduceAdd, binJ, lenOfD, ressD, resD, D.ok, D.cells, one, reduceCtorEq, Nat.reduceEqDiff, Int.reduceEq, zc, Tm.part, Nat.reduceLeDiff, Nat.reduceLT, Int.reduceLE, Int.reduceToNat, Nat.reducePow, Int.reducePow, D.upd, splice, buildD, bound, sliceD, cfD, i64]
      refine callX_eq (plan18 l p.2 c x date s (by omega) (by omega) (by unfold ok64; omega) hc hx _) ?_
      have hdl := dist_lenS (stOf s) date 2 l (limS p.2 c.cap c.floor)
      obtain ⟨q, hq⟩ : ∃ q, (dist (stOf s) date 2 l (limS p.2 c.cap c.floor)).1 = q := ⟨_, rfl⟩
      rw [hq] at hdl ⊢
      have hcap : (p.1.length + q.length) * 32 ≤ 140737488355328 := by omega
      simp only [zz, leaves, undef, pin, Int.reduceLT, C.lps, C.isLoop, bsliceD, contents, gate, evalI, St.ev, St.put, List.replicate, Nat.reduceSub, Nat.reduceAdd, binJ, lenOfD, ressD, resD, D.ok, D.cells, one, reduceCtorEq, Nat.reduceEqDiff, Int.reduceEq, zc, Tm.part, Nat.reduceLeDiff, Nat.reduceLT, Int.reduceLE, Int.reduceToNat, Nat.reducePow, Int.reducePow, D.upd, splice, buildD, bound, sliceD, pssD, List.length_map, hcap]
      refine Clo.of ?_
      simp only [zz, leaves, undef, pin, Int.reduceLT, C.lps, C.isLoop, bsliceD, contents, gate, evalI, St.ev, St.put, List.replicate, Nat.reduceSub, Nat.reduceAdd, binJ, lenOfD, ressD, resD, D.ok, D.cells, one, reduceCtorEq, Nat.reduceEqDiff, Int.reduceEq]
      rw [froz_own rfl (idfreesA (pss_free _) (pss_free _)), List.map_append]
  exact (callP_of (R := fun d => d = pssD (payS to date c (stOf s) l)) 3 (by simp [idfrees, idfree, basD, bas_free, i64, hcf, i64s_free]) key m).mono fun _ _ h => ⟨h.1.1, h.2⟩

theorem payS_len {to date : Int} {c : Cf} {st : Int → Bool} {l : List Ba} {n : Nat} (h : modP l n) : (payS to date c st l).length ≤ 120 := by
  have h1 := (psti_ok (to := to) (date := date) h.2.2 l.length (Nat.le_refl _)).1
  have h2 := dist_lenS st date 2 l (limS (psti to date l l.length).2 c.cap c.floor)
  have h3 := h.1
  unfold payS
  rw [List.length_append]
  omega

theorem lawPay (l : List Ba) (to : Int) (c : Cf) (x : List D) (s : List Int) (hc : c.Ok) (hx : idfrees x = true) :
    CallT Try.prog 8 [basD l, i64 to, cfD c (.sl 1 x), .sl 1 (i64s s)] [] fun d _ => d = .v (.bool true) := by
  have hxf : idfree (.sl 1 x) = true := by simpa [idfree] using hx
  simp only [i64, cfD]
  refine callT_of k8_ok k8_name (Z.T hmix ?_)
  simp only [k8, k8c, zc, Tm.part, Nat.reduceLeDiff, Nat.reduceLT, Int.reduceLE, Int.reduceToNat, Nat.reducePow, Int.reducePow, D.upd, splice, buildD, bound, sliceD, zz, leaves, undef, pin, Int.reduceLT, C.lps, C.isLoop, bsliceD, contents, gate, evalI, St.ev, St.put, List.replicate, Nat.reduceSub, Nat.reduceAdd, binJ, lenOfD, ressD, resD, D.ok, D.cells, one, reduceCtorEq, Nat.reduceEqDiff, Int.reduceEq]
  refine callX_eq (mod22 l s _) ?_
  by_cases hf : modP l s.length
  · simp only [zz, leaves, undef, pin, Int.reduceLT, C.lps, C.isLoop, bsliceD, contents, gate, evalI, St.ev, St.put, List.replicate, Nat.reduceSub, Nat.reduceAdd, binJ, lenOfD, ressD, resD, D.ok, D.cells, one, reduceCtorEq, Nat.reduceEqDiff, Int.reduceEq, zc, Tm.part, Nat.reduceLeDiff, Nat.reduceLT, Int.reduceLE, Int.reduceToNat, Nat.reducePow, Int.reducePow, D.upd, splice, buildD, bound, sliceD, hf]
    refine callX_eq (sm23 c x hx _) ?_
    by_cases hs : x.length ≤ 70
    · simp only [zz, leaves, undef, pin, Int.reduceLT, C.lps, C.isLoop, bsliceD, contents, gate, evalI, St.ev, St.put, List.replicate, Nat.reduceSub, Nat.reduceAdd, binJ, lenOfD, ressD, resD, D.ok, D.cells, one, reduceCtorEq, Nat.reduceEqDiff, Int.reduceEq, zc, Tm.part, Nat.reduceLeDiff, Nat.reduceLT, Int.reduceLE, Int.reduceToNat, Nat.reducePow, Int.reducePow, D.upd, splice, buildD, bound, sliceD, hs]
      refine callQ_eq (fun m => pay25 l to c (.sl 1 x) c.c5 s hf hc hxf m) ?_
      simp only [zz, leaves, undef, pin, Int.reduceLT, C.lps, C.isLoop, bsliceD, contents, gate, evalI, St.ev, St.put, List.replicate, Nat.reduceSub, Nat.reduceAdd, binJ, lenOfD, ressD, resD, D.ok, D.cells, one, reduceCtorEq, Nat.reduceEqDiff, Int.reduceEq, zc, Tm.part, Nat.reduceLeDiff, Nat.reduceLT, Int.reduceLE, Int.reduceToNat, Nat.reducePow, Int.reducePow, D.upd, splice, buildD, bound, sliceD]
      refine callX_eq (pay26 l to c (.sl 1 x) c.c5 s hf hc hxf _) ?_
      simp only [zz, leaves, undef, pin, Int.reduceLT, C.lps, C.isLoop, bsliceD, contents, gate, evalI, St.ev, St.put, List.replicate, Nat.reduceSub, Nat.reduceAdd, binJ, lenOfD, ressD, resD, D.ok, D.cells, one, reduceCtorEq, Nat.reduceEqDiff, Int.reduceEq, zc, Tm.part, Nat.reduceLeDiff, Nat.reduceLT, Int.reduceLE, Int.reduceToNat, Nat.reducePow, Int.reducePow, D.upd, splice, buildD, bound, sliceD]
      have hlen := payS_len (to := to) (date := c.c5) (c := c) (st := stOf s) hf
      refine callX_eq (same16 _ (by omega) _) ?_
      simp only [zz, leaves, undef, pin, Int.reduceLT, C.lps, C.isLoop, bsliceD, contents, gate, evalI, St.ev, St.put, List.replicate, Nat.reduceSub, Nat.reduceAdd, binJ, lenOfD, ressD, resD, D.ok, D.cells, one, reduceCtorEq, Nat.reduceEqDiff, Int.reduceEq]
      refine callX_eq (awake40 _) ?_
      simp only [zz, leaves, undef, pin, Int.reduceLT, C.lps, C.isLoop, bsliceD, contents, gate, evalI, St.ev, St.put, List.replicate, Nat.reduceSub, Nat.reduceAdd, binJ, lenOfD, ressD, resD, D.ok, D.cells, one, reduceCtorEq, Nat.reduceEqDiff, Int.reduceEq]
    · simp only [zz, leaves, undef, pin, Int.reduceLT, C.lps, C.isLoop, bsliceD, contents, gate, evalI, St.ev, St.put, List.replicate, Nat.reduceSub, Nat.reduceAdd, binJ, lenOfD, ressD, resD, D.ok, D.cells, one, reduceCtorEq, Nat.reduceEqDiff, Int.reduceEq, hs]
      refine callX_eq (awake40 _) ?_
      simp only [zz, leaves, undef, pin, Int.reduceLT, C.lps, C.isLoop, bsliceD, contents, gate, evalI, St.ev, St.put, List.replicate, Nat.reduceSub, Nat.reduceAdd, binJ, lenOfD, ressD, resD, D.ok, D.cells, one, reduceCtorEq, Nat.reduceEqDiff, Int.reduceEq]
  · simp only [zz, leaves, undef, pin, Int.reduceLT, C.lps, C.isLoop, bsliceD, contents, gate, evalI, St.ev, St.put, List.replicate, Nat.reduceSub, Nat.reduceAdd, binJ, lenOfD, ressD, resD, D.ok, D.cells, one, reduceCtorEq, Nat.reduceEqDiff, Int.reduceEq, zc, Tm.part, Nat.reduceLeDiff, Nat.reduceLT, Int.reduceLE, Int.reduceToNat, Nat.reducePow, Int.reducePow, D.upd, splice, buildD, bound, sliceD, hf]
    refine callX_eq (awake40 _) ?_
    simp only [zz, leaves, undef, pin, Int.reduceLT, C.lps, C.isLoop, bsliceD, contents, gate, evalI, St.ev, St.put, List.replicate, Nat.reduceSub, Nat.reduceAdd, binJ, lenOfD, ressD, resD, D.ok, D.cells, one, reduceCtorEq, Nat.reduceEqDiff, Int.reduceEq]
end Go.Proofs.Ytlfhdejlpnljbaa
