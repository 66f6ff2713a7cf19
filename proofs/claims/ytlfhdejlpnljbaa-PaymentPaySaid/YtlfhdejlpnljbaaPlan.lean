/-
  Plan and Repay, of the program and of the reference; the statements about them.
-/
import Derived.Test.YtlfhdejlpnljbaaDist2
import Derived.Test.YtlfhdejlpnljbaaTmT
set_option linter.unusedSimpArgs false
set_option linter.unusedVariables false
set_option maxHeartbeats 2000000
namespace Go.Proofs.Ytlfhdejlpnljbaa
open Go.Tm
set_option maxRecDepth 10000

theorem key_int {k : Value} (h : isKey 0 k = true) : ∃ n, k = .int .i64 n := by
  cases k <;> simp [isKey] at h
  rename_i t n
  cases t <;> simp [isKey] at h
  exact ⟨n, rfl⟩

theorem put_keys {n : Int} {x : D} : ∀ {es : List (Value × D)}, (es.all fun e => isKey 0 e.1) = true → ((putD (.int .i64 n) x es).all fun e => isKey 0 e.1) = true
  | [], _ => rfl
  | (q, d) :: l, h => by
    simp only [List.all_cons, Bool.and_eq_true] at h
    simp only [putD]
    split
    · simp only [List.all_cons, Bool.and_eq_true]; exact ⟨rfl, h.2⟩
    · simp only [List.all_cons, Bool.and_eq_true]; exact ⟨h.1, put_keys h.2⟩

theorem look_put {n a : Int} {x : D} : ∀ {es : List (Value × D)}, (es.all fun e => isKey 0 e.1) = true → lookD (.int .i64 a) (putD (.int .i64 n) x es) = if a = n then some x else lookD (.int .i64 a) es
  | [], _ => by
    simp only [putD, lookD, keyEq, beq_iff_eq]
  | (q, d) :: l, h => by
    simp only [List.all_cons, Bool.and_eq_true] at h
    obtain ⟨b, rfl⟩ := key_int h.1
    have ih := look_put (n := n) (a := a) (x := x) h.2
    simp only [putD, keyEq, beq_iff_eq]
    split
    · rename_i hnb
      subst hnb
      simp only [lookD, keyEq, beq_iff_eq]
      split <;> rfl
    · rename_i hnb
      simp only [lookD, keyEq, beq_iff_eq, ih]
      by_cases h1 : a = b
      · rw [if_pos h1, if_pos h1, if_neg (by omega)]
      · rw [if_neg h1, if_neg h1]

def putM (es : List (Value × D)) (n : Int) : List (Value × D) := putD (.int .i64 n) (.v (.bool true)) es
theorem map_put {es : List (Value × D)} {st : Int → Bool} (h : MapSt es st) (n : Int) : MapSt (putM es n) (fun k => st k || decide (k = n)) := by
  refine ⟨put_keys h.1, fun a => ?_⟩
  rw [putM, look_put h.1, h.2 a]
  by_cases h1 : a = n <;> simp [h1]
theorem map_fold : ∀ (l : List Int) {es : List (Value × D)} {st : Int → Bool}, MapSt es st → MapSt (l.foldl putM es) (fun k => st k || decide (k ∈ l))
  | [], es, st, h => by simpa using h
  | n :: l, es, st, h => by
    have := map_fold l (map_put h n)
    simp only [List.foldl_cons]
    have e : (fun k => (st k || decide (k = n)) || decide (k ∈ l)) = fun k => st k || decide (k ∈ n :: l) := by
      funext k; simp [Bool.or_assoc]
    rwa [e] at this
theorem map_of (l : List Int) : MapSt (l.foldl putM []) (stOf l) := by
  have := map_fold l (es := []) (st := fun _ => false) ⟨rfl, fun n => by simp [lookD]⟩
  have e : (fun k => (false || decide (k ∈ l))) = stOf l := by funext k; simp [stOf]
  rwa [e] at this
theorem put_below (k : Nat) (n : Int) : ∀ {es : List (Value × D)}, (es.all fun e => below k e.2) = true → ((putM es n).all fun e => below k e.2) = true
  | [], _ => rfl
  | (q, d) :: l, h => by
    simp only [List.all_cons, Bool.and_eq_true] at h
    have ih := put_below k n h.2
    simp only [putM] at ih ⊢
    simp only [putD]
    split
    · simp only [List.all_cons, Bool.and_eq_true]; exact ⟨rfl, h.2⟩
    · simp only [List.all_cons, Bool.and_eq_true]; exact ⟨h.1, ih⟩
theorem fold_below (k : Nat) : ∀ (l : List Int) {es : List (Value × D)}, (es.all fun e => below k e.2) = true → ((l.foldl putM es).all fun e => below k e.2) = true
  | [], _, h => h
  | n :: l, es, h => by rw [List.foldl_cons]; exact fold_below k l (put_below k n h)

theorem plan17 (l : List Ba) (pay : Int) (c : Cf) (x : D) (date : Int) (stayed : List Int) (hl : l.length < 2 ^ 40) (hs : stayed.length < 2 ^ 62) (hp : ok64 pay) (hc : c.Ok) (hx : idfree x = true) (m : List Ent) :
    CallT Try.prog 17 [basD l, i64 pay, cfD c x, i64 date, .sl 1 (i64s stayed)] m fun d m' => d = pssD (dist (stOf stayed) date 2 l (limS pay c.cap c.floor)).1 ∧ m' = m := by
  have hl0 := limS_nn pay c.cap c.floor
  have hl1 := limS_le pay c.cap c.floor
  have key : CallT Try.prog 17 [basD l, i64 pay, cfD c x, i64 date, .sl 1 (i64s stayed)] [] fun d m' => froz 3 m' d = pssD (dist (stOf stayed) date 2 l (limS pay c.cap c.floor)).1 := by
    have hf := cf_free c hx
    refine callT_of k17_ok k17_name (Z.T hmix ?_)
    simp only [k17, k17c, zc, Tm.part, Nat.reduceLeDiff, Nat.reduceLT, Int.reduceLE, Int.reduceToNat, Nat.reducePow, Int.reducePow, D.upd, splice, buildD, bound, sliceD, i64s_len, cfD, i64, basD, zz, leaves, undef, pin, Int.reduceLT, C.lps, C.isLoop, bsliceD, contents, gate, evalI, St.ev, St.put, List.replicate, Nat.reduceSub, Nat.reduceAdd, binJ, lenOfD, ressD, resD, D.ok, D.cells, one, reduceCtorEq, Nat.reduceEqDiff, Int.reduceEq]
    refine T.blkI stayed.length (fun i => ⟨[.sl 4 (l.map baD), .v (.int .i64 pay), .dead, .v (.int .i64 date), .dead, .dead, .dead, .ref 0 0 0 0, .dead, .dead, .dead, .mp 1, .dead, .dead, .dead, .dead, .dead, .sl 1 (i64s stayed), .v (.int .i64 stayed.length), .v (.int .i64 i), .dead, .dead, .dead, .dead, .dead, .dead, .dead, .dead, .dead, .dead, .dead, .dead, .dead, .dead, .dead, .dead, .dead],
      [.live 9 0 [cfD c x], .mp ((stayed.take i).foldl putM [])]⟩) ?_ ?_ ?_ (by repeat (first | exact stab_S | exact stab_C | exact stab_I | exact stab_M | refine stab_B ?_)) ?_
    · exact At.cut 2 (by repeat (first | exact Subs.refl' _ | refine Subs.cons (Sub.refl _) ?_ | refine Subs.cons (Sub.toDead _) ?_)) rfl
    · intro i hi
      exact ⟨by simp, by simp [belows, below, belows_free, bas_free, i64s_free], by simp [Ent.below, belows, below_free _ _ hf]; exact fun a b h => List.all_eq_true.1 (fold_below 2 (stayed.take i) (es := []) rfl) _ h⟩
    · intro i hi
      refine Z.T hmix ?_
      rcases Nat.lt_or_ge i stayed.length with h | h
      · have hm := (map_of (stayed.take i)).1
        simp only [zz, leaves, undef, pin, Int.reduceLT, C.lps, C.isLoop, bsliceD, contents, gate, evalI, St.ev, St.put, List.replicate, Nat.reduceSub, Nat.reduceAdd, binJ, lenOfD, ressD, resD, D.ok, D.cells, one, reduceCtorEq, Nat.reduceEqDiff, Int.reduceEq, zc, Tm.part, Nat.reduceLeDiff, Nat.reduceLT, Int.reduceLE, Int.reduceToNat, Nat.reducePow, Int.reducePow, D.upd, splice, buildD, bound, sliceD, natlt, h, i64s_get h, isKey_i64, hm, wrapSu i (by omega)]
        refine At.cut 2 (by repeat (first | exact Subs.refl' _ | refine Subs.cons (Sub.refl _) ?_ | refine Subs.cons (Sub.toDead _) ?_)) ?_
        rw [foldl_take _ _ _ h]
        rfl
      · obtain rfl : i = stayed.length := by omega
        simp only [zz, leaves, undef, pin, Int.reduceLT, C.lps, C.isLoop, bsliceD, contents, gate, evalI, St.ev, St.put, List.replicate, Nat.reduceSub, Nat.reduceAdd, binJ, lenOfD, ressD, resD, D.ok, D.cells, one, reduceCtorEq, Nat.reduceEqDiff, Int.reduceEq, zc, Tm.part, Nat.reduceLeDiff, Nat.reduceLT, Int.reduceLE, Int.reduceToNat, Nat.reducePow, Int.reducePow, D.upd, splice, buildD, bound, sliceD, natlt, Nat.lt_irrefl]
        exact At.same _ _ _ (by repeat (first | exact Subs.refl' _ | refine Subs.cons (Sub.refl _) ?_ | refine Subs.cons (Sub.toDead _) ?_))
    · simp only [zz, leaves, undef, pin, Int.reduceLT, C.lps, C.isLoop, bsliceD, contents, gate, evalI, St.ev, St.put, List.replicate, Nat.reduceSub, Nat.reduceAdd, binJ, lenOfD, ressD, resD, D.ok, D.cells, one, reduceCtorEq, Nat.reduceEqDiff, Int.reduceEq]
      refine Z.T hmix ?_
      simp only [zz, leaves, undef, pin, Int.reduceLT, C.lps, C.isLoop, bsliceD, contents, gate, evalI, St.ev, St.put, List.replicate, Nat.reduceSub, Nat.reduceAdd, binJ, lenOfD, ressD, resD, D.ok, D.cells, one, reduceCtorEq, Nat.reduceEqDiff, Int.reduceEq, zc, Tm.part, Nat.reduceLeDiff, Nat.reduceLT, Int.reduceLE, Int.reduceToNat, Nat.reducePow, Int.reducePow, D.upd, splice, buildD, bound, sliceD, List.take_length, cfD, i64]
      refine callX_eq (lim12 pay c x hp hc hx _) ?_
      simp only [zz, leaves, undef, pin, Int.reduceLT, C.lps, C.isLoop, bsliceD, contents, gate, evalI, St.ev, St.put, List.replicate, Nat.reduceSub, Nat.reduceAdd, binJ, lenOfD, ressD, resD, D.ok, D.cells, one, reduceCtorEq, Nat.reduceEqDiff, Int.reduceEq, zc, Tm.part, Nat.reduceLeDiff, Nat.reduceLT, Int.reduceLE, Int.reduceToNat, Nat.reducePow, Int.reducePow, D.upd, splice, buildD, bound, sliceD, i64]
      refine callX_of (distM l (limS pay c.cap c.floor) 2 date hl (by unfold ok64 at *; omega) (stOf stayed) (stayed.foldl putM []) 1 _ ?_ rfl (map_of stayed)) ?_
      · simp [Ent.below, belows, below_free _ _ hf]
        rw [show D.agg [D.v (Value.int IntKind.i64 c.c0), D.v (Value.int IntKind.i64 c.c1), D.v (Value.int IntKind.i64 c.c2), D.v (Value.int IntKind.i64 c.cap), D.v (Value.int IntKind.i64 c.floor), D.v (Value.int IntKind.i64 c.c5), D.v (Value.int IntKind.i64 c.c6), D.v (Value.int IntKind.i64 c.c7), x] = cfD c x from rfl]
        exact ⟨below_free _ _ hf, fun a b h => List.all_eq_true.1 (fold_below 2 stayed (es := []) rfl) _ h⟩
      · rintro d m' ⟨v, rfl, rfl⟩
        simp only [zz, leaves, undef, pin, Int.reduceLT, C.lps, C.isLoop, bsliceD, contents, gate, evalI, St.ev, St.put, List.replicate, Nat.reduceSub, Nat.reduceAdd, binJ, lenOfD, ressD, resD, D.ok, D.cells, one, reduceCtorEq, Nat.reduceEqDiff, Int.reduceEq, zc, Tm.part, Nat.reduceLeDiff, Nat.reduceLT, Int.reduceLE, Int.reduceToNat, Nat.reducePow, Int.reducePow, D.upd, splice, buildD, bound, sliceD, i64]
        rw [froz_own rfl (pss_free _)]
        rfl
  exact (callP_of (R := fun d => d = pssD (dist (stOf stayed) date 2 l (limS pay c.cap c.floor)).1) 3 (by simp [idfrees, idfree, basD, bas_free, i64, cf_free c hx, i64s_free]) key m).mono fun _ _ h => ⟨h.1.1, h.2⟩

theorem plan18 (l : List Ba) (pay : Int) (c : Cf) (x : D) (date : Int) (stayed : List Int) (hl : l.length < 2 ^ 40) (hs : stayed.length < 2 ^ 62) (hp : ok64 pay) (hc : c.Ok) (hx : idfree x = true) (m : List Ent) :
    CallT Try.prog 18 [basD l, i64 pay, cfD c x, i64 date, .sl 1 (i64s stayed)] m fun d m' => d = pssD (dist (stOf stayed) date 2 l (limS pay c.cap c.floor)).1 ∧ m' = m := by
  have hl0 := limS_nn pay c.cap c.floor
  have hl1 := limS_le pay c.cap c.floor
  have key : CallT Try.prog 18 [basD l, i64 pay, cfD c x, i64 date, .sl 1 (i64s stayed)] [] fun d m' => froz 3 m' d = pssD (dist (stOf stayed) date 2 l (limS pay c.cap c.floor)).1 := by
    refine callT_of k18_ok k18_name (Z.T hmix ?_)
    simp only [k18, k18c, zc, Tm.part, Nat.reduceLeDiff, Nat.reduceLT, Int.reduceLE, Int.reduceToNat, Nat.reducePow, Int.reducePow, D.upd, splice, buildD, bound, sliceD, cfD, i64, zz, leaves, undef, pin, Int.reduceLT, C.lps, C.isLoop, bsliceD, contents, gate, evalI, St.ev, St.put, List.replicate, Nat.reduceSub, Nat.reduceAdd, binJ, lenOfD, ressD, resD, D.ok, D.cells, one, reduceCtorEq, Nat.reduceEqDiff, Int.reduceEq]
    refine callX_eq (lim13 pay c x hp hc hx _) ?_
    simp only [zz, leaves, undef, pin, Int.reduceLT, C.lps, C.isLoop, bsliceD, contents, gate, evalI, St.ev, St.put, List.replicate, Nat.reduceSub, Nat.reduceAdd, binJ, lenOfD, ressD, resD, D.ok, D.cells, one, reduceCtorEq, Nat.reduceEqDiff, Int.reduceEq, zc, Tm.part, Nat.reduceLeDiff, Nat.reduceLT, Int.reduceLE, Int.reduceToNat, Nat.reducePow, Int.reducePow, D.upd, splice, buildD, bound, sliceD]
    refine callX_of (distRP l (limS pay c.cap c.floor) 2 date stayed hl hs (by unfold ok64 at *; omega) _) ?_
    rintro d m' ⟨rfl, rfl⟩
    simp only [zz, leaves, undef, pin, Int.reduceLT, C.lps, C.isLoop, bsliceD, contents, gate, evalI, St.ev, St.put, List.replicate, Nat.reduceSub, Nat.reduceAdd, binJ, lenOfD, ressD, resD, D.ok, D.cells, one, reduceCtorEq, Nat.reduceEqDiff, Int.reduceEq, zc, Tm.part, Nat.reduceLeDiff, Nat.reduceLT, Int.reduceLE, Int.reduceToNat, Nat.reducePow, Int.reducePow, D.upd, splice, buildD, bound, sliceD]
    exact froz_sl (pss_free _)
  exact (callP_of (R := fun d => d = pssD (dist (stOf stayed) date 2 l (limS pay c.cap c.floor)).1) 3 (by simp [idfrees, idfree, basD, bas_free, i64, cf_free c hx, i64s_free]) key m).mono fun _ _ h => ⟨h.1.1, h.2⟩

theorem rep19 (l : List Ba) (cents date : Int) (hl : l.length < 2 ^ 40) (hc : ok64 cents) (m : List Ent) :
    CallT Try.prog 19 [basD l, i64 cents, i64 date] m fun d m' => d = .tup [pssD (dist (fun _ => false) date 3 l (max 0 cents)).1, i64 (dist (fun _ => false) date 3 l (max 0 cents)).2] ∧ m' = m := by
  have key : CallT Try.prog 19 [basD l, i64 cents, i64 date] [] fun d m' => froz 5 m' d = .tup [pssD (dist (fun _ => false) date 3 l (max 0 cents)).1, i64 (dist (fun _ => false) date 3 l (max 0 cents)).2] := by
    simp only [i64]
    by_cases h : cents < 1
    · have e : dist (fun _ => false) date 3 l (max 0 cents) = ([], 0) := by
        rw [show max 0 cents = 0 by omega]; exact dist_stop (s := ([], 0)) (Int.le_refl _) l
      rw [e]
      refine callT_less (R := fun d m' => d = .tup [.v (.slice none 0 0), i64 0]) ?_ ?_
      · refine callT_of k19_ok k19_name (Z.T hmix ?_)
        simp only [k19, k19c, h, i64, zz, leaves, undef, pin, Int.reduceLT, C.lps, C.isLoop, bsliceD, contents, gate, evalI, St.ev, St.put, List.replicate, Nat.reduceSub, Nat.reduceAdd, binJ, lenOfD, ressD, resD, D.ok, D.cells, one, reduceCtorEq, Nat.reduceEqDiff, Int.reduceEq]
      · rintro d m' rfl
        refine ⟨.tup [.sl 4 [], i64 0], ?_, rfl⟩
        simp only [Tm.Sub]
        exact Subs.cons sub_nil (Subs.refl' _)
    · have e : max 0 cents = cents := by omega
      rw [e]
      refine callT_of k19_ok k19_name (Z.T hmix ?_)
      simp only [k19, k19c, h, zz, leaves, undef, pin, Int.reduceLT, C.lps, C.isLoop, bsliceD, contents, gate, evalI, St.ev, St.put, List.replicate, Nat.reduceSub, Nat.reduceAdd, binJ, lenOfD, ressD, resD, D.ok, D.cells, one, reduceCtorEq, Nat.reduceEqDiff, Int.reduceEq]
      refine callX_of (distN l cents 3 date hl hc (fun _ => false) _ rfl rfl) ?_
      rintro d m' ⟨v, rfl, rfl⟩
      simp only [zz, leaves, undef, pin, Int.reduceLT, C.lps, C.isLoop, bsliceD, contents, gate, evalI, St.ev, St.put, List.replicate, Nat.reduceSub, Nat.reduceAdd, binJ, lenOfD, ressD, resD, D.ok, D.cells, one, reduceCtorEq, Nat.reduceEqDiff, Int.reduceEq, zc, Tm.part, Nat.reduceLeDiff, Nat.reduceLT, Int.reduceLE, Int.reduceToNat, Nat.reducePow, Int.reducePow, D.upd, splice, buildD, bound, sliceD, i64]
      rw [froz_tup]
      simp only [List.map_cons, List.map_nil]
      rw [froz_own rfl (pss_free _)]
      rfl
  exact (callP_of (R := fun d => d = .tup [pssD (dist (fun _ => false) date 3 l (max 0 cents)).1, i64 (dist (fun _ => false) date 3 l (max 0 cents)).2]) 5 (by simp [idfrees, idfree, basD, bas_free, i64]) key m).mono fun _ _ h => ⟨h.1.1, h.2⟩

theorem rep20 (l : List Ba) (cents date : Int) (hl : l.length < 2 ^ 40) (hc : ok64 cents) (m : List Ent) :
    CallT Try.prog 20 [basD l, i64 cents, i64 date] m fun d m' => d = .tup [pssD (dist (fun _ => false) date 3 l (max 0 cents)).1, i64 (dist (fun _ => false) date 3 l (max 0 cents)).2] ∧ m' = m := by
  have hst : stOf [] = fun _ => false := by funext k; simp [stOf]
  simp only [i64]
  refine callT_of k20_ok k20_name (Z.T hmix ?_)
  simp only [k20, k20c, zz, leaves, undef, pin, Int.reduceLT, C.lps, C.isLoop, bsliceD, contents, gate, evalI, St.ev, St.put, List.replicate, Nat.reduceSub, Nat.reduceAdd, binJ, lenOfD, ressD, resD, D.ok, D.cells, one, reduceCtorEq, Nat.reduceEqDiff, Int.reduceEq]
  refine callX_of (callT_sub (ds' := [basD l, i64 (max 0 cents), i64 date, i64 3, .sl 1 (i64s [])]) ?_ (distRP l (max 0 cents) 3 date [] hl (by decide) (by unfold ok64 at *; omega) _)) ?_
  · exact Subs.cons (Sub.refl _) (Subs.cons (Sub.refl _) (Subs.cons (Sub.refl _) (Subs.cons (Sub.refl _) (Subs.cons sub_nil (Subs.refl' _)))))
  · rw [hst]
    rintro d m' ⟨rfl, rfl⟩
    simp only [zz, leaves, undef, pin, Int.reduceLT, C.lps, C.isLoop, bsliceD, contents, gate, evalI, St.ev, St.put, List.replicate, Nat.reduceSub, Nat.reduceAdd, binJ, lenOfD, ressD, resD, D.ok, D.cells, one, reduceCtorEq, Nat.reduceEqDiff, Int.reduceEq, zc, Tm.part, Nat.reduceLeDiff, Nat.reduceLT, Int.reduceLE, Int.reduceToNat, Nat.reducePow, Int.reducePow, D.upd, splice, buildD, bound, sliceD, i64]

theorem same16 (l : List Ps) (hl : l.length < 2 ^ 62) (m : List Ent) : CallT Try.prog 16 [pssD l, pssD l] m fun d m' => d = .v (.bool true) ∧ m' = m := by
  have key : CallT Try.prog 16 [pssD l, pssD l] [] fun d m' => d = .v (.bool true) := by
    simp only [pssD]
    refine callT_of k16_ok k16_name (Z.T hmix ?_)
    simp only [k16, k16c, List.length_map, zz, leaves, undef, pin, Int.reduceLT, C.lps, C.isLoop, bsliceD, contents, gate, evalI, St.ev, St.put, List.replicate, Nat.reduceSub, Nat.reduceAdd, binJ, lenOfD, ressD, resD, D.ok, D.cells, one, reduceCtorEq, Nat.reduceEqDiff, Int.reduceEq]
    refine T.blkI l.length (fun i => ⟨[.sl 4 (l.map psD), .sl 4 (l.map psD), .dead, .dead, .dead, .v (.int .i64 i), .dead, .dead, .dead, .dead, .dead, .dead, .dead, .dead, .dead, .dead, .dead, .dead, .dead, .dead, .dead, .dead, .dead, .dead, .dead, .dead, .dead, .dead, .dead, .dead, .dead, .dead], []⟩) ?_ ?_ ?_ (by repeat (first | exact stab_S | exact stab_C | exact stab_I | exact stab_M | refine stab_B ?_)) ?_
    · exact At.same _ _ _ (by repeat (first | exact Subs.refl' _ | refine Subs.cons (Sub.refl _) ?_ | refine Subs.cons (Sub.toDead _) ?_))
    · intro i hi
      exact ⟨by simp, by simp [Ent.below, belows, below, belows_free, below_free, belowsApp, pss_free], by simp⟩
    · intro i hi
      refine Z.T hmix ?_
      rcases Nat.lt_or_ge i l.length with h | h
      · simp only [zz, leaves, undef, pin, Int.reduceLT, C.lps, C.isLoop, bsliceD, contents, gate, evalI, St.ev, St.put, List.replicate, Nat.reduceSub, Nat.reduceAdd, binJ, lenOfD, ressD, resD, D.ok, D.cells, one, reduceCtorEq, Nat.reduceEqDiff, Int.reduceEq, zc, Tm.part, Nat.reduceLeDiff, Nat.reduceLT, Int.reduceLE, Int.reduceToNat, Nat.reducePow, Int.reducePow, D.upd, splice, buildD, bound, sliceD, List.length_map, natlt, h, pss_get h, eqLeaves, eqLeaf, wrapSu i (by omega)]
        exact At.same _ _ _ (by repeat (first | exact Subs.refl' _ | refine Subs.cons (Sub.refl _) ?_ | refine Subs.cons (Sub.toDead _) ?_))
      · obtain rfl : i = l.length := by omega
        simp only [zz, leaves, undef, pin, Int.reduceLT, C.lps, C.isLoop, bsliceD, contents, gate, evalI, St.ev, St.put, List.replicate, Nat.reduceSub, Nat.reduceAdd, binJ, lenOfD, ressD, resD, D.ok, D.cells, one, reduceCtorEq, Nat.reduceEqDiff, Int.reduceEq, zc, Tm.part, Nat.reduceLeDiff, Nat.reduceLT, Int.reduceLE, Int.reduceToNat, Nat.reducePow, Int.reducePow, D.upd, splice, buildD, bound, sliceD, List.length_map, natlt, Nat.lt_irrefl]
        exact At.same _ _ _ (by repeat (first | exact Subs.refl' _ | refine Subs.cons (Sub.refl _) ?_ | refine Subs.cons (Sub.toDead _) ?_))
    · simp only [zz, leaves, undef, pin, Int.reduceLT, C.lps, C.isLoop, bsliceD, contents, gate, evalI, St.ev, St.put, List.replicate, Nat.reduceSub, Nat.reduceAdd, binJ, lenOfD, ressD, resD, D.ok, D.cells, one, reduceCtorEq, Nat.reduceEqDiff, Int.reduceEq]
      refine Z.T hmix ?_
      simp only [zz, leaves, undef, pin, Int.reduceLT, C.lps, C.isLoop, bsliceD, contents, gate, evalI, St.ev, St.put, List.replicate, Nat.reduceSub, Nat.reduceAdd, binJ, lenOfD, ressD, resD, D.ok, D.cells, one, reduceCtorEq, Nat.reduceEqDiff, Int.reduceEq]
  exact (callP_of (R := fun d => d = .v (.bool true)) 3 (by simp [idfrees, idfree, pssD, pss_free]) (key.mono fun _ _ h => by rw [h]; rfl) m).mono fun _ _ h => ⟨h.1.1, h.2⟩
theorem dist_lenS (st : Int → Bool) (date kind : Int) (l : List Ba) (rest : Int) : (dist st date kind l rest).1.length ≤ l.length := by
  rw [dsti_all (Nat.le_refl _)]; exact dsti_len _ _ _ _ _ _ (Nat.le_refl _)

end Go.Proofs.Ytlfhdejlpnljbaa
