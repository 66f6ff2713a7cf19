/-
  recovery.distribute: postings for the overpayments, in order.
-/
import Derived.Test.YtlfhdejlpnljbaaRec
set_option linter.unusedSimpArgs false
set_option linter.unusedVariables false
set_option maxHeartbeats 2000000
namespace Go.Proofs.Ytlfhdejlpnljbaa
open Go.Tm
set_option maxRecDepth 10000

/-- The overpayment of a balance. -/
def ovW (b : Ba) : Int := max (wrapF .i64 (wrapF .i64 (b.r - b.d) - b.w)) 0

theorem ov42 (b : Ba) (m : List Ent) : CallT Try.prog 42 [.agg [.v (.int .i64 b.m), .v (.int .i64 b.d), .v (.int .i64 b.r), .v (.int .i64 b.w)]] m fun d m' => d = i64 (ovW b) ∧ m' = m := by
  have key : CallT Try.prog 42 [.agg [.v (.int .i64 b.m), .v (.int .i64 b.d), .v (.int .i64 b.r), .v (.int .i64 b.w)]] [] fun d m' => d = i64 (ovW b) := by
    refine callT_of k42_ok k42_name (Z.T hmix ?_)
    simp only [k42, k42c, zc, Tm.part, Nat.reduceLeDiff, Nat.reduceLT, Int.reduceLE, Int.reduceToNat, Nat.reducePow, Int.reducePow, D.upd, splice, buildD, bound, sliceD, ovW, i64, zz, leaves, undef, pin, Int.reduceLT, C.lps, C.isLoop, bsliceD, contents, gate, evalI, St.ev, St.put, List.replicate, Nat.reduceSub, Nat.reduceAdd, binJ, lenOfD, ressD, resD, D.ok, D.cells, one, reduceCtorEq, Nat.reduceEqDiff, Int.reduceEq]
  exact (callP_of (R := fun d => d = i64 (ovW b)) 3 rfl (key.mono fun _ _ h => by rw [h]; rfl) m).mono fun _ _ h => ⟨h.1.1, h.2⟩

theorem ov21 (b : Ba) (m : List Ent) : CallT Try.prog 21 [.agg [.v (.int .i64 b.m), .v (.int .i64 b.d), .v (.int .i64 b.r), .v (.int .i64 b.w)]] m fun d m' => d = i64 (ovW b) ∧ m' = m := by
  have key : CallT Try.prog 21 [.agg [.v (.int .i64 b.m), .v (.int .i64 b.d), .v (.int .i64 b.r), .v (.int .i64 b.w)]] [] fun d m' => d = i64 (ovW b) := by
    refine callT_of k21_ok k21_name (Z.T hmix ?_)
    simp only [k21, k21c, zc, Tm.part, Nat.reduceLeDiff, Nat.reduceLT, Int.reduceLE, Int.reduceToNat, Nat.reducePow, Int.reducePow, D.upd, splice, buildD, bound, sliceD, ovW, i64, zz, leaves, undef, pin, Int.reduceLT, C.lps, C.isLoop, bsliceD, contents, gate, evalI, St.ev, St.put, List.replicate, Nat.reduceSub, Nat.reduceAdd, binJ, lenOfD, ressD, resD, D.ok, D.cells, one, reduceCtorEq, Nat.reduceEqDiff, Int.reduceEq]
  exact (callP_of (R := fun d => d = i64 (ovW b)) 3 rfl (key.mono fun _ _ h => by rw [h]; rfl) m).mono fun _ _ h => ⟨h.1.1, h.2⟩

/-- One balance more. -/
def dstep (st : Int → Bool) (date kind : Int) (s : List Ps × Int) (b : Ba) : List Ps × Int :=
  if s.2 ≤ 0 ∨ ovW b ≤ 0 ∨ st b.m = true then s else (s.1 ++ [⟨date, b.m, kind, min (ovW b) s.2⟩], s.2 - min (ovW b) s.2)

/-- The postings that distribute an amount, and what remains. -/
def dist (st : Int → Bool) (date kind : Int) (l : List Ba) (rest : Int) : List Ps × Int := l.foldl (dstep st date kind) ([], rest)

theorem dstep_stop {st : Int → Bool} {date kind : Int} {s : List Ps × Int} (h : s.2 ≤ 0) (b : Ba) : dstep st date kind s b = s := if_pos (.inl h)
theorem dist_stop {st : Int → Bool} {date kind : Int} {s : List Ps × Int} (h : s.2 ≤ 0) : ∀ l : List Ba, l.foldl (dstep st date kind) s = s
  | [] => rfl
  | b :: l => by rw [List.foldl_cons, dstep_stop h, dist_stop h l]
theorem dstep_rest {st : Int → Bool} {date kind : Int} {s : List Ps × Int} {b : Ba} {R : Int} (h : s.2 ≤ R ∧ (0 ≤ s.2 ∨ s.2 = R)) (hR : -9223372036854775808 ≤ R) : (dstep st date kind s b).2 ≤ R ∧ (0 ≤ (dstep st date kind s b).2 ∨ (dstep st date kind s b).2 = R) := by
  unfold dstep; split
  · exact h
  · simp only; omega

/-- The round's state. -/
def dsti (st : Int → Bool) (date kind : Int) (l : List Ba) (rest : Int) (i : Nat) : List Ps × Int := (l.take i).foldl (dstep st date kind) ([], rest)
theorem dsti_rest (st : Int → Bool) (date kind : Int) (l : List Ba) (rest : Int) (hR : -9223372036854775808 ≤ rest) : ∀ i, (dsti st date kind l rest i).2 ≤ rest ∧ (0 ≤ (dsti st date kind l rest i).2 ∨ (dsti st date kind l rest i).2 = rest) := by
  have key : ∀ (l : List Ba) (s : List Ps × Int), s.2 ≤ rest ∧ (0 ≤ s.2 ∨ s.2 = rest) → (l.foldl (dstep st date kind) s).2 ≤ rest ∧ (0 ≤ (l.foldl (dstep st date kind) s).2 ∨ (l.foldl (dstep st date kind) s).2 = rest) := by
    intro l
    induction l with
    | nil => intro s h; exact h
    | cons b l ih => intro s h; exact ih _ (dstep_rest h hR)
  exact fun i => key _ _ ⟨Int.le_refl _, .inr rfl⟩
theorem dsti_succ {st : Int → Bool} {date kind : Int} {l : List Ba} {rest : Int} {i : Nat} (h : i < l.length) : dsti st date kind l rest (i + 1) = dstep st date kind (dsti st date kind l rest i) l[i] := foldl_take _ _ l h
theorem dsti_end {st : Int → Bool} {date kind : Int} {l : List Ba} {rest : Int} {i : Nat} (h : (dsti st date kind l rest i).2 ≤ 0) : dist st date kind l rest = dsti st date kind l rest i := by
  unfold dist dsti at *
  rw [← List.take_append_drop i l, List.foldl_append]
  rw [List.take_append_drop]
  exact dist_stop h _
theorem dsti_all {st : Int → Bool} {date kind : Int} {l : List Ba} {rest : Int} {i : Nat} (h : l.length ≤ i) : dist st date kind l rest = dsti st date kind l rest i := by
  unfold dist dsti; rw [List.take_of_length_le h]
theorem dstep_len {st : Int → Bool} {date kind : Int} (s : List Ps × Int) (b : Ba) : (dstep st date kind s b).1.length ≤ s.1.length + 1 := by
  unfold dstep; split
  · omega
  · simp
theorem dsti_len (st : Int → Bool) (date kind : Int) (l : List Ba) (rest : Int) : ∀ i, i ≤ l.length → (dsti st date kind l rest i).1.length ≤ i
  | 0, _ => by simp [dsti]
  | i + 1, h => by
    rw [dsti_succ (by omega)]
    have := dstep_len (st := st) (date := date) (kind := kind) (dsti st date kind l rest i) (l[i]'(by omega))
    have := dsti_len st date kind l rest i (by omega)
    omega
theorem bas_drop {l : List Ba} {i : Nat} (h : i < l.length) : ((l.map baD).drop i)[0]? = some (.agg [.v (.int .i64 l[i].m), .v (.int .i64 l[i].d), .v (.int .i64 l[i].r), .v (.int .i64 l[i].w)]) := by
  rw [List.getElem?_drop, Nat.add_zero]; exact bas_get h

theorem cut_1 (m : List Ent) (a : Ent) (r : List Ent) : ((m ++ [a]) ++ r).take (m.length + 1) = m ++ [a] := List.take_left' (by simp)
theorem cut_2 (m : List Ent) (a : Ent) (r q : List Ent) : (((m ++ [a]) ++ r) ++ q).take (m.length + 1) = m ++ [a] := by rw [List.append_assoc]; exact cut_1 _ _ _
/-- A map of the stayed months. -/
def MapSt (es : List (Value × D)) (st : Int → Bool) : Prop := (es.all fun e => isKey 0 e.1) = true ∧ ∀ n, lookD (.int .i64 n) es = if st n = true then some (.v (.bool true)) else none
theorem isKey_i64 (n : Int) : isKey 0 (.int .i64 n) = true := Eq.trans rfl rfl

theorem distM (l : List Ba) (rest kind date : Int) (hl : l.length < 2 ^ 40) (hR : ok64 rest) (st : Int → Bool) (es : List (Value × D)) (id : Nat) (m : List Ent) (hb : m.all (Ent.below m.length) = true) (hid : m[id]? = some (.mp es)) (hst : MapSt es st) :
    CallT Try.prog 37 [basD l, i64 rest, i64 kind, i64 date, .mp id] m fun d m' => ∃ v, d = .tup [.own m.length v, i64 (dist st date kind l rest).2] ∧ m' = m ++ [.live 4 v ((dist st date kind l rest).1.map psD)] := by
  unfold ok64 at hR
  simp only [basD, i64]
  refine callT_of k37_ok k37_name ?_
  simp only [k37, k37c]
  refine T.clo ?_
  refine T.seqS (Z.T hmix ?_)
  simp only [zc, Tm.part, Nat.reduceLeDiff, Nat.reduceLT, Int.reduceLE, Int.reduceToNat, Nat.reducePow, Int.reducePow, D.upd, splice, buildD, bound, sliceD, zz, leaves, undef, pin, Int.reduceLT, C.lps, C.isLoop, bsliceD, contents, gate, evalI, St.ev, St.put, List.replicate, Nat.reduceSub, Nat.reduceAdd, binJ, lenOfD, ressD, resD, D.ok, D.cells, one, reduceCtorEq, Nat.reduceEqDiff, Int.reduceEq]
  refine T.seqS (Z.T hmix ?_)
  simp only [zc, Tm.part, Nat.reduceLeDiff, Nat.reduceLT, Int.reduceLE, Int.reduceToNat, Nat.reducePow, Int.reducePow, D.upd, splice, buildD, bound, sliceD, List.length_map, List.take_length, zz, leaves, undef, pin, Int.reduceLT, C.lps, C.isLoop, bsliceD, contents, gate, evalI, St.ev, St.put, List.replicate, Nat.reduceSub, Nat.reduceAdd, binJ, lenOfD, ressD, resD, D.ok, D.cells, one, reduceCtorEq, Nat.reduceEqDiff, Int.reduceEq]
  refine T.adopt 12 4 rfl ?_
  refine Z.T hmix ?_
  have hta : List.take l.length (l.map baD) = l.map baD := List.take_of_length_le (by simp)
  simp only [zz, leaves, undef, pin, Int.reduceLT, C.lps, C.isLoop, bsliceD, contents, gate, evalI, St.ev, St.put, List.replicate, Nat.reduceSub, Nat.reduceAdd, binJ, lenOfD, ressD, resD, D.ok, D.cells, one, reduceCtorEq, Nat.reduceEqDiff, Int.reduceEq, zc, Tm.part, Nat.reduceLeDiff, Nat.reduceLT, Int.reduceLE, Int.reduceToNat, Nat.reducePow, Int.reducePow, D.upd, splice, buildD, bound, sliceD, List.length_map, Nat.zero_le, Nat.sub_zero, hta]
  refine T.blkM (X := Nat) (fun i => ⟨[.dead, .v (.int .i64 (dsti st date kind l rest i).2), .v (.int .i64 kind), .v (.int .i64 date), .mp id, .dead, .dead, .dead, .dead, .dead, .dead, .dead, .own m.length (dsti st date kind l rest i).1.length, .sl 4 ((l.map baD).drop i), .dead, .dead, .dead, .dead, .dead, .dead, .dead, .dead, .dead, .dead, .dead, .dead, .dead, .dead, .dead, .dead, .dead, .dead, .dead, .dead, .dead, .dead, .dead, .dead, .dead, .dead, .dead, .dead, .dead, .dead, .dead, .dead, .dead, .dead, .dead, .dead, .dead, .dead, .dead, .dead, .dead, .dead, .dead, .dead, .dead, .dead, .dead, .dead, .dead, .dead, .dead, .dead], m ++ [.live 4 (dsti st date kind l rest i).1.length ((dsti st date kind l rest i).1.map psD)]⟩)
    (fun i => i ≤ l.length) (fun i => i ≤ l.length ∧ dist st date kind l rest = dsti st date kind l rest i) (fun i => l.length - i) 0 (Nat.zero_le _) ?_ ?_ ?_ (fun _ => by repeat (first | exact stab_S | exact stab_C | exact stab_I | exact stab_M | refine stab_B ?_)) ?_
  · exact At.same _ _ _ (by repeat (first | exact Subs.refl' _ | refine Subs.cons (Sub.refl _) ?_ | refine Subs.cons (Sub.toDead _) ?_))
  · intro i hi
    refine ⟨by simp, ?_, ?_⟩
    · have hf : idfrees ((l.map baD).drop i) = true := by
        rw [idfrees_iff]; intro d hd; exact idfrees_iff.1 (bas_free l) d (List.mem_of_mem_drop hd)
      simp [belows, below, belows_free, hf , Nat.lt_succ_of_lt (List.getElem?_eq_some_iff.1 hid).1]
    · rw [List.all_append, Bool.and_eq_true]
      refine ⟨all_below_mono (by simp) hb, ?_⟩
      simp [Ent.below, belows_free, pss_free]
  · intro i hi
    refine Z.T hmix ?_
    have hr := dsti_rest st date kind l rest hR.1 i
    have hln := dsti_len st date kind l rest i hi
    rcases Nat.lt_or_ge i l.length with h | h
    · have hs := dsti_succ (st := st) (date := date) (kind := kind) (rest := rest) h
      have he := @dsti_end st date kind l rest i
      have hlen : (0 : Int) < ((l.length - i : Nat) : Int) := by omega
      obtain ⟨p, hp⟩ : ∃ p, dsti st date kind l rest i = p := ⟨_, rfl⟩
      rw [hp] at hs he hr hln
      by_cases c : p.2 ≤ 0
      · have c' : ¬ (0 : Int) < p.2 := by omega
        simp only [hp, zz, leaves, undef, pin, Int.reduceLT, C.lps, C.isLoop, bsliceD, contents, gate, evalI, St.ev, St.put, List.replicate, Nat.reduceSub, Nat.reduceAdd, binJ, lenOfD, ressD, resD, D.ok, D.cells, one, reduceCtorEq, Nat.reduceEqDiff, Int.reduceEq, zc, Tm.part, Nat.reduceLeDiff, Nat.reduceLT, Int.reduceLE, Int.reduceToNat, Nat.reducePow, Int.reducePow, D.upd, splice, buildD, bound, sliceD, List.length_map, List.length_drop, hlen, c']
        exact ⟨i, ⟨hi, by rw [hp]; exact he c⟩, by rw [hp]; exact At.same _ _ _ (by repeat (first | exact Subs.refl' _ | refine Subs.cons (Sub.refl _) ?_ | refine Subs.cons (Sub.toDead _) ?_))⟩
      · have c' : (0 : Int) < p.2 := by omega
        simp only [hp, zz, leaves, undef, pin, Int.reduceLT, C.lps, C.isLoop, bsliceD, contents, gate, evalI, St.ev, St.put, List.replicate, Nat.reduceSub, Nat.reduceAdd, binJ, lenOfD, ressD, resD, D.ok, D.cells, one, reduceCtorEq, Nat.reduceEqDiff, Int.reduceEq, zc, Tm.part, Nat.reduceLeDiff, Nat.reduceLT, Int.reduceLE, Int.reduceToNat, Nat.reducePow, Int.reducePow, D.upd, splice, buildD, bound, sliceD, List.length_map, List.length_drop, hlen, c', bas_drop h, zm]
        refine callX_eq (ov42 _ _) ?_
        have hdrop : (List.drop 1 ((l.map baD).drop i)).take (l.length - i - 1) = (l.map baD).drop (i + 1) := by
          rw [List.drop_drop, List.take_of_length_le (by simp; omega)]
        have hle1 : 1 ≤ l.length - i := by omega
        by_cases c2 : ovW l[i] ≤ 0
        · have hs' : dstep st date kind p l[i] = p := if_pos (.inr (.inl c2))
          simp only [zz, leaves, undef, pin, Int.reduceLT, C.lps, C.isLoop, bsliceD, contents, gate, evalI, St.ev, St.put, List.replicate, Nat.reduceSub, Nat.reduceAdd, binJ, lenOfD, ressD, resD, D.ok, D.cells, one, reduceCtorEq, Nat.reduceEqDiff, Int.reduceEq, zc, Tm.part, Nat.reduceLeDiff, Nat.reduceLT, Int.reduceLE, Int.reduceToNat, Nat.reducePow, Int.reducePow, D.upd, splice, buildD, bound, sliceD, i64, c2, zm, List.length_map, List.length_drop, hle1, hdrop]
          exact ⟨i + 1, h, by omega, by rw [hs, hs']; exact At.cut (m.length + 1) (by repeat (first | exact Subs.refl' _ | refine Subs.cons (Sub.refl _) ?_ | refine Subs.cons (Sub.toDead _) ?_)) (cut_1 _ _ _)⟩
        · have hq2 : ∀ a b : List Ent, ((m ++ a) ++ b)[id]? = some (.mp es) := fun a b => by
            rw [List.append_assoc, List.getElem?_append_left (List.getElem?_eq_some_iff.1 hid).1]; exact hid
          have hlk := hst.2 l[i].m
          by_cases c3 : st l[i].m = true
          · have hs' : dstep st date kind p l[i] = p := if_pos (.inr (.inr c3))
            rw [if_pos c3] at hlk
            simp only [zz, leaves, undef, pin, Int.reduceLT, C.lps, C.isLoop, bsliceD, contents, gate, evalI, St.ev, St.put, List.replicate, Nat.reduceSub, Nat.reduceAdd, binJ, lenOfD, ressD, resD, D.ok, D.cells, one, reduceCtorEq, Nat.reduceEqDiff, Int.reduceEq, zc, Tm.part, Nat.reduceLeDiff, Nat.reduceLT, Int.reduceLE, Int.reduceToNat, Nat.reducePow, Int.reducePow, D.upd, splice, buildD, bound, sliceD, i64, c2, zm, List.length_map, List.length_drop, hle1, hdrop, hq2, isKey_i64, hst.1, hlk]
            exact ⟨i + 1, h, by omega, by rw [hs, hs']; exact At.cut (m.length + 1) (by repeat (first | exact Subs.refl' _ | refine Subs.cons (Sub.refl _) ?_ | refine Subs.cons (Sub.toDead _) ?_)) (cut_1 _ _ _)⟩
          · rw [if_neg c3] at hlk
            have hs' : dstep st date kind p l[i] = (p.1 ++ [⟨date, l[i].m, kind, min (ovW l[i]) p.2⟩], p.2 - min (ovW l[i]) p.2) := if_neg (by simp only [not_or]; exact ⟨c, c2, c3⟩)
            have hcap : (p.1.length + 1) * 32 ≤ 140737488355328 := by omega
            have hw : wrapF .i64 (p.2 - min (ovW l[i]) p.2) = p.2 - min (ovW l[i]) p.2 := wrapI (by omega)
            simp only [zz, leaves, undef, pin, Int.reduceLT, C.lps, C.isLoop, bsliceD, contents, gate, evalI, St.ev, St.put, List.replicate, Nat.reduceSub, Nat.reduceAdd, binJ, lenOfD, ressD, resD, D.ok, D.cells, one, reduceCtorEq, Nat.reduceEqDiff, Int.reduceEq, zc, Tm.part, Nat.reduceLeDiff, Nat.reduceLT, Int.reduceLE, Int.reduceToNat, Nat.reducePow, Int.reducePow, D.upd, splice, buildD, bound, sliceD, i64, c2, zm, List.length_map, List.length_drop, hle1, hdrop, hq2, isKey_i64, hst.1, hlk, hcap, hw]
            refine ⟨i + 1, h, by omega, ?_⟩
            rw [hs, hs']
            refine At.cut (m.length + 1) ?_ ?_
            · simp only [List.length_append, List.length_cons, List.length_nil, Nat.zero_add]
              repeat (first | exact Subs.refl' _ | refine Subs.cons (Sub.refl _) ?_ | refine Subs.cons (Sub.toDead _) ?_)
            · simp only [List.map_append, List.map_cons, List.map_nil, List.length_append, List.length_cons, List.length_nil, Nat.zero_add]
              exact cut2
    · obtain rfl : i = l.length := by omega
      have hlen0 : ¬ (0 : Int) < ((l.length - l.length : Nat) : Int) := by omega
      simp only [zz, leaves, undef, pin, Int.reduceLT, C.lps, C.isLoop, bsliceD, contents, gate, evalI, St.ev, St.put, List.replicate, Nat.reduceSub, Nat.reduceAdd, binJ, lenOfD, ressD, resD, D.ok, D.cells, one, reduceCtorEq, Nat.reduceEqDiff, Int.reduceEq, zc, Tm.part, Nat.reduceLeDiff, Nat.reduceLT, Int.reduceLE, Int.reduceToNat, Nat.reducePow, Int.reducePow, D.upd, splice, buildD, bound, sliceD, List.length_map, List.length_drop, hlen0]
      exact ⟨l.length, ⟨Nat.le_refl _, dsti_all (Nat.le_refl _)⟩, At.same _ _ _ (by repeat (first | exact Subs.refl' _ | refine Subs.cons (Sub.refl _) ?_ | refine Subs.cons (Sub.toDead _) ?_))⟩
  · rintro i ⟨hi, he⟩
    simp only [zz, leaves, undef, pin, Int.reduceLT, C.lps, C.isLoop, bsliceD, contents, gate, evalI, St.ev, St.put, List.replicate, Nat.reduceSub, Nat.reduceAdd, binJ, lenOfD, ressD, resD, D.ok, D.cells, one, reduceCtorEq, Nat.reduceEqDiff, Int.reduceEq]
    refine Z.T hmix ?_
    simp only [zz, leaves, undef, pin, Int.reduceLT, C.lps, C.isLoop, bsliceD, contents, gate, evalI, St.ev, St.put, List.replicate, Nat.reduceSub, Nat.reduceAdd, binJ, lenOfD, ressD, resD, D.ok, D.cells, one, reduceCtorEq, Nat.reduceEqDiff, Int.reduceEq, he]
    refine Clo.of ?_
    simp only [zz, leaves, undef, pin, Int.reduceLT, C.lps, C.isLoop, bsliceD, contents, gate, evalI, St.ev, St.put, List.replicate, Nat.reduceSub, Nat.reduceAdd, binJ, lenOfD, ressD, resD, D.ok, D.cells, one, reduceCtorEq, Nat.reduceEqDiff, Int.reduceEq]
    exact ⟨_, rfl, rfl⟩

theorem distN (l : List Ba) (rest kind date : Int) (hl : l.length < 2 ^ 40) (hR : ok64 rest) (st : Int → Bool) (m : List Ent) (hb : m.all (Ent.below m.length) = true) (hst : st = fun _ => false) :
    CallT Try.prog 37 [basD l, i64 rest, i64 kind, i64 date, .v (.map none)] m fun d m' => ∃ v, d = .tup [.own m.length v, i64 (dist st date kind l rest).2] ∧ m' = m ++ [.live 4 v ((dist st date kind l rest).1.map psD)] := by
  unfold ok64 at hR
  simp only [basD, i64]
  refine callT_of k37_ok k37_name ?_
  simp only [k37, k37c]
  refine T.clo ?_
  refine T.seqS (Z.T hmix ?_)
  simp only [zc, Tm.part, Nat.reduceLeDiff, Nat.reduceLT, Int.reduceLE, Int.reduceToNat, Nat.reducePow, Int.reducePow, D.upd, splice, buildD, bound, sliceD, zz, leaves, undef, pin, Int.reduceLT, C.lps, C.isLoop, bsliceD, contents, gate, evalI, St.ev, St.put, List.replicate, Nat.reduceSub, Nat.reduceAdd, binJ, lenOfD, ressD, resD, D.ok, D.cells, one, reduceCtorEq, Nat.reduceEqDiff, Int.reduceEq]
  refine T.seqS (Z.T hmix ?_)
  simp only [zc, Tm.part, Nat.reduceLeDiff, Nat.reduceLT, Int.reduceLE, Int.reduceToNat, Nat.reducePow, Int.reducePow, D.upd, splice, buildD, bound, sliceD, List.length_map, List.take_length, zz, leaves, undef, pin, Int.reduceLT, C.lps, C.isLoop, bsliceD, contents, gate, evalI, St.ev, St.put, List.replicate, Nat.reduceSub, Nat.reduceAdd, binJ, lenOfD, ressD, resD, D.ok, D.cells, one, reduceCtorEq, Nat.reduceEqDiff, Int.reduceEq]
  refine T.adopt 12 4 rfl ?_
  refine Z.T hmix ?_
  have hta : List.take l.length (l.map baD) = l.map baD := List.take_of_length_le (by simp)
  simp only [zz, leaves, undef, pin, Int.reduceLT, C.lps, C.isLoop, bsliceD, contents, gate, evalI, St.ev, St.put, List.replicate, Nat.reduceSub, Nat.reduceAdd, binJ, lenOfD, ressD, resD, D.ok, D.cells, one, reduceCtorEq, Nat.reduceEqDiff, Int.reduceEq, zc, Tm.part, Nat.reduceLeDiff, Nat.reduceLT, Int.reduceLE, Int.reduceToNat, Nat.reducePow, Int.reducePow, D.upd, splice, buildD, bound, sliceD, List.length_map, Nat.zero_le, Nat.sub_zero, hta]
  refine T.blkM (X := Nat) (fun i => ⟨[.dead, .v (.int .i64 (dsti st date kind l rest i).2), .v (.int .i64 kind), .v (.int .i64 date), .v (.map none), .dead, .dead, .dead, .dead, .dead, .dead, .dead, .own m.length (dsti st date kind l rest i).1.length, .sl 4 ((l.map baD).drop i), .dead, .dead, .dead, .dead, .dead, .dead, .dead, .dead, .dead, .dead, .dead, .dead, .dead, .dead, .dead, .dead, .dead, .dead, .dead, .dead, .dead, .dead, .dead, .dead, .dead, .dead, .dead, .dead, .dead, .dead, .dead, .dead, .dead, .dead, .dead, .dead, .dead, .dead, .dead, .dead, .dead, .dead, .dead, .dead, .dead, .dead, .dead, .dead, .dead, .dead, .dead, .dead], m ++ [.live 4 (dsti st date kind l rest i).1.length ((dsti st date kind l rest i).1.map psD)]⟩)
    (fun i => i ≤ l.length) (fun i => i ≤ l.length ∧ dist st date kind l rest = dsti st date kind l rest i) (fun i => l.length - i) 0 (Nat.zero_le _) ?_ ?_ ?_ (fun _ => by repeat (first | exact stab_S | exact stab_C | exact stab_I | exact stab_M | refine stab_B ?_)) ?_
  · exact At.same _ _ _ (by repeat (first | exact Subs.refl' _ | refine Subs.cons (Sub.refl _) ?_ | refine Subs.cons (Sub.toDead _) ?_))
  · intro i hi
    refine ⟨by simp, ?_, ?_⟩
    · have hf : idfrees ((l.map baD).drop i) = true := by
        rw [idfrees_iff]; intro d hd; exact idfrees_iff.1 (bas_free l) d (List.mem_of_mem_drop hd)
      simp [belows, below, belows_free, hf ]
    · rw [List.all_append, Bool.and_eq_true]
      refine ⟨all_below_mono (by simp) hb, ?_⟩
      simp [Ent.below, belows_free, pss_free]
  · intro i hi
    refine Z.T hmix ?_
    have hr := dsti_rest st date kind l rest hR.1 i
    have hln := dsti_len st date kind l rest i hi
    rcases Nat.lt_or_ge i l.length with h | h
    · have hs := dsti_succ (st := st) (date := date) (kind := kind) (rest := rest) h
      have he := @dsti_end st date kind l rest i
      have hlen : (0 : Int) < ((l.length - i : Nat) : Int) := by omega
      obtain ⟨p, hp⟩ : ∃ p, dsti st date kind l rest i = p := ⟨_, rfl⟩
      rw [hp] at hs he hr hln
      by_cases c : p.2 ≤ 0
      · have c' : ¬ (0 : Int) < p.2 := by omega
        simp only [hp, zz, leaves, undef, pin, Int.reduceLT, C.lps, C.isLoop, bsliceD, contents, gate, evalI, St.ev, St.put, List.replicate, Nat.reduceSub, Nat.reduceAdd, binJ, lenOfD, ressD, resD, D.ok, D.cells, one, reduceCtorEq, Nat.reduceEqDiff, Int.reduceEq, zc, Tm.part, Nat.reduceLeDiff, Nat.reduceLT, Int.reduceLE, Int.reduceToNat, Nat.reducePow, Int.reducePow, D.upd, splice, buildD, bound, sliceD, List.length_map, List.length_drop, hlen, c']
        exact ⟨i, ⟨hi, by rw [hp]; exact he c⟩, by rw [hp]; exact At.same _ _ _ (by repeat (first | exact Subs.refl' _ | refine Subs.cons (Sub.refl _) ?_ | refine Subs.cons (Sub.toDead _) ?_))⟩
      · have c' : (0 : Int) < p.2 := by omega
        simp only [hp, zz, leaves, undef, pin, Int.reduceLT, C.lps, C.isLoop, bsliceD, contents, gate, evalI, St.ev, St.put, List.replicate, Nat.reduceSub, Nat.reduceAdd, binJ, lenOfD, ressD, resD, D.ok, D.cells, one, reduceCtorEq, Nat.reduceEqDiff, Int.reduceEq, zc, Tm.part, Nat.reduceLeDiff, Nat.reduceLT, Int.reduceLE, Int.reduceToNat, Nat.reducePow, Int.reducePow, D.upd, splice, buildD, bound, sliceD, List.length_map, List.length_drop, hlen, c', bas_drop h, zm]
        refine callX_eq (ov42 _ _) ?_
        have hdrop : (List.drop 1 ((l.map baD).drop i)).take (l.length - i - 1) = (l.map baD).drop (i + 1) := by
          rw [List.drop_drop, List.take_of_length_le (by simp; omega)]
        have hle1 : 1 ≤ l.length - i := by omega
        by_cases c2 : ovW l[i] ≤ 0
        · have hs' : dstep st date kind p l[i] = p := if_pos (.inr (.inl c2))
          simp only [zz, leaves, undef, pin, Int.reduceLT, C.lps, C.isLoop, bsliceD, contents, gate, evalI, St.ev, St.put, List.replicate, Nat.reduceSub, Nat.reduceAdd, binJ, lenOfD, ressD, resD, D.ok, D.cells, one, reduceCtorEq, Nat.reduceEqDiff, Int.reduceEq, zc, Tm.part, Nat.reduceLeDiff, Nat.reduceLT, Int.reduceLE, Int.reduceToNat, Nat.reducePow, Int.reducePow, D.upd, splice, buildD, bound, sliceD, i64, c2, zm, List.length_map, List.length_drop, hle1, hdrop]
          exact ⟨i + 1, h, by omega, by rw [hs, hs']; exact At.cut (m.length + 1) (by repeat (first | exact Subs.refl' _ | refine Subs.cons (Sub.refl _) ?_ | refine Subs.cons (Sub.toDead _) ?_)) (cut_1 _ _ _)⟩
        · have c3 : ¬ st l[i].m = true := by rw [hst]; simp
          have hlk := isKey_i64
          · skip
            have hs' : dstep st date kind p l[i] = (p.1 ++ [⟨date, l[i].m, kind, min (ovW l[i]) p.2⟩], p.2 - min (ovW l[i]) p.2) := if_neg (by simp only [not_or]; exact ⟨c, c2, c3⟩)
            have hcap : (p.1.length + 1) * 32 ≤ 140737488355328 := by omega
            have hw : wrapF .i64 (p.2 - min (ovW l[i]) p.2) = p.2 - min (ovW l[i]) p.2 := wrapI (by omega)
            simp only [zz, leaves, undef, pin, Int.reduceLT, C.lps, C.isLoop, bsliceD, contents, gate, evalI, St.ev, St.put, List.replicate, Nat.reduceSub, Nat.reduceAdd, binJ, lenOfD, ressD, resD, D.ok, D.cells, one, reduceCtorEq, Nat.reduceEqDiff, Int.reduceEq, zc, Tm.part, Nat.reduceLeDiff, Nat.reduceLT, Int.reduceLE, Int.reduceToNat, Nat.reducePow, Int.reducePow, D.upd, splice, buildD, bound, sliceD, i64, c2, zm, List.length_map, List.length_drop, hle1, hdrop, isKey_i64, hcap, hw]
            refine ⟨i + 1, h, by omega, ?_⟩
            rw [hs, hs']
            refine At.cut (m.length + 1) ?_ ?_
            · simp only [List.length_append, List.length_cons, List.length_nil, Nat.zero_add]
              repeat (first | exact Subs.refl' _ | refine Subs.cons (Sub.refl _) ?_ | refine Subs.cons (Sub.toDead _) ?_)
            · simp only [List.map_append, List.map_cons, List.map_nil, List.length_append, List.length_cons, List.length_nil, Nat.zero_add]
              exact cut2
    · obtain rfl : i = l.length := by omega
      have hlen0 : ¬ (0 : Int) < ((l.length - l.length : Nat) : Int) := by omega
      simp only [zz, leaves, undef, pin, Int.reduceLT, C.lps, C.isLoop, bsliceD, contents, gate, evalI, St.ev, St.put, List.replicate, Nat.reduceSub, Nat.reduceAdd, binJ, lenOfD, ressD, resD, D.ok, D.cells, one, reduceCtorEq, Nat.reduceEqDiff, Int.reduceEq, zc, Tm.part, Nat.reduceLeDiff, Nat.reduceLT, Int.reduceLE, Int.reduceToNat, Nat.reducePow, Int.reducePow, D.upd, splice, buildD, bound, sliceD, List.length_map, List.length_drop, hlen0]
      exact ⟨l.length, ⟨Nat.le_refl _, dsti_all (Nat.le_refl _)⟩, At.same _ _ _ (by repeat (first | exact Subs.refl' _ | refine Subs.cons (Sub.refl _) ?_ | refine Subs.cons (Sub.toDead _) ?_))⟩
  · rintro i ⟨hi, he⟩
    simp only [zz, leaves, undef, pin, Int.reduceLT, C.lps, C.isLoop, bsliceD, contents, gate, evalI, St.ev, St.put, List.replicate, Nat.reduceSub, Nat.reduceAdd, binJ, lenOfD, ressD, resD, D.ok, D.cells, one, reduceCtorEq, Nat.reduceEqDiff, Int.reduceEq]
    refine Z.T hmix ?_
    simp only [zz, leaves, undef, pin, Int.reduceLT, C.lps, C.isLoop, bsliceD, contents, gate, evalI, St.ev, St.put, List.replicate, Nat.reduceSub, Nat.reduceAdd, binJ, lenOfD, ressD, resD, D.ok, D.cells, one, reduceCtorEq, Nat.reduceEqDiff, Int.reduceEq, he]
    refine Clo.of ?_
    simp only [zz, leaves, undef, pin, Int.reduceLT, C.lps, C.isLoop, bsliceD, contents, gate, evalI, St.ev, St.put, List.replicate, Nat.reduceSub, Nat.reduceAdd, binJ, lenOfD, ressD, resD, D.ok, D.cells, one, reduceCtorEq, Nat.reduceEqDiff, Int.reduceEq]
    exact ⟨_, rfl, rfl⟩
end Go.Proofs.Ytlfhdejlpnljbaa
