/-
  fill: the words that are read go where the fields lie.
-/
import Derived.Test.YtjbhgmeokoconaaDec
set_option linter.unusedSimpArgs false
set_option linter.unusedVariables false
set_option maxHeartbeats 2000000
namespace Go.Proofs.Ytjbhgmeokoconaa
open Go.Tm
set_option maxRecDepth 10000

/-- A cell of a resource is set. -/
def setC (m : List Ent) (p : Nat × Nat) (x : D) : List Ent :=
  match m[p.1]? with
  | some (.live S v [d]) => m.set p.1 (.live S v [d.upd p.2 [x]])
  | _ => m

/-- The reader, when bs is left. -/
def rdr (bs : List (BitVec 8)) : Ent := .live 1 0 [.agg [.sl 1 (bytesD bs)]]

def fillM (rid : Nat) : List (Nat × Nat) → List (BitVec 8) → List Ent → List Ent
  | [], _, m => m
  | p :: rs, bs, m => fillM rid rs (bs.drop 8) (setC (m.set rid (rdr (bs.drop 8))) p (i64 (sg64 (leN (bs.take 8)))))

theorem fillM_snoc (rid : Nat) (p : Nat × Nat) : ∀ (rs : List (Nat × Nat)) (bs : List (BitVec 8)) (m : List Ent),
    fillM rid (rs ++ [p]) bs m = setC ((fillM rid rs bs m).set rid (rdr ((bs.drop (8 * rs.length)).drop 8))) p (i64 (sg64 (leN ((bs.drop (8 * rs.length)).take 8))))
  | [], bs, m => by simp [fillM]
  | q :: rs, bs, m => by
    simp only [List.cons_append, fillM, fillM_snoc rid p rs, List.length_cons, List.drop_drop]
    rw [show 8 + 8 * rs.length = 8 * (rs.length + 1) by omega]

def refsD (rs : List (Nat × Nat)) : List D := rs.map fun p => .ref p.1 0 0 p.2

structure FillOk (rid fid : Nat) (rs : List (Nat × Nat)) (bs : List (BitVec 8)) (m : List Ent) : Prop where
  hrid : m[rid]? = some (rdr bs)
  hfid : m[fid]? = some (.live 1 0 (refsD rs))
  ne : rid ≠ fid
  hbelow : m.all (Ent.below m.length) = true
  hcell : ∀ p ∈ rs, p.1 ≠ rid ∧ p.1 ≠ fid ∧ ∃ S d, m[p.1]? = some (.live S 0 [d]) ∧ ((∃ l, d = .agg l ∧ p.2 < l.length) ∨ (∃ n, d = i64 n ∧ p.2 = 0))

theorem upd_below {k : Nat} {l : List D} {j : Nat} {x : D} (h : belows k l = true) (hx : below k x = true) : belows k (splice l j [x]) = true := by
  have h1 : ∀ r : List D, belows k r = true ↔ ∀ d ∈ r, below k d = true := by
    intro r
    induction r with
    | nil => simp [belows]
    | cons d r ih => simp [belows, ih]
  rw [h1] at h ⊢
  intro d hd
  simp only [splice, List.mem_append, List.mem_singleton] at hd
  rcases hd with (hd | hd) | hd
  · exact h d (List.mem_of_mem_take hd)
  · rw [hd]; exact hx
  · exact h d (List.mem_of_mem_drop hd)

theorem FillOk.step {rid fid : Nat} {rs : List (Nat × Nat)} {bs : List (BitVec 8)} {m : List Ent} (h : FillOk rid fid rs bs m) (p : Nat × Nat) (hp : p ∈ rs) (n : Int) :
    FillOk rid fid rs (bs.drop 8) (setC (m.set rid (rdr (bs.drop 8))) p (i64 n)) := by
  obtain ⟨h1, h2, S, d, h3, h4⟩ := h.hcell p hp
  have hr := (List.getElem?_eq_some_iff.1 h.hrid).1
  have hp' := (List.getElem?_eq_some_iff.1 h3).1
  have hm : setC (m.set rid (rdr (bs.drop 8))) p (i64 n) = (m.set rid (rdr (bs.drop 8))).set p.1 (.live S 0 [d.upd p.2 [i64 n]]) := by
    unfold setC
    rw [getq_ne (Ne.symm h1), h3]
  have hdb : below m.length d = true := by
    have := List.all_eq_true.1 h.hbelow _ (List.mem_of_getElem? h3)
    simpa [Ent.below, belows] using this
  have hub : below m.length (d.upd p.2 [i64 n]) = true := by
    rcases h4 with ⟨l, rfl, _⟩ | ⟨k, rfl, _⟩
    · simp only [D.upd, below] at hdb ⊢
      exact upd_below hdb (by simp [i64, below])
    · simp [D.upd, i64, below]
  rw [hm]
  refine ⟨?_, ?_, h.ne, ?_, fun q hq => ?_⟩
  · rw [getq_ne h1, getq_set hr]
  · rw [getq_ne h2, getq_ne h.ne, h.hfid]
  · simp only [List.length_set]
    exact all_set (all_set h.hbelow (by simp [rdr, Ent.below, belows, below, belows_free, bytesD_free])) (by simpa [Ent.below, belows] using hub)
  · obtain ⟨k1, k2, S', d', k3, k4⟩ := h.hcell q hq
    refine ⟨k1, k2, ?_⟩
    by_cases hpq : p.1 = q.1
    · rw [← hpq, h3] at k3
      injection k3 with k3; injection k3 with k3a k3b k3c; injection k3c with k3c _
      subst k3a k3c
      refine ⟨S, _, by rw [← hpq, getq_set (by simpa using hp')], ?_⟩
      rcases h4 with ⟨l, rfl, hl⟩ | ⟨k, rfl, hk⟩
      · rcases k4 with ⟨l', hl', hq2⟩ | ⟨k', hk', _⟩
        · injection hl' with hl'; subst hl'
          refine .inl ⟨_, rfl, ?_⟩
          simp only [splice, List.length_append, List.length_take, List.length_drop, List.length_cons, List.length_nil]
          omega
        · simp [i64] at hk'
      · rcases k4 with ⟨l', hl', _⟩ | ⟨k', _, hq2⟩
        · simp [i64] at hl'
        · exact .inr ⟨n, rfl, hq2⟩
    · exact ⟨S', d', by rw [getq_ne hpq, getq_ne (Ne.symm k1), k3], k4⟩

theorem FillOk.many {rid fid : Nat} {rs : List (Nat × Nat)} : ∀ (qs : List (Nat × Nat)) (bs : List (BitVec 8)) (m : List Ent), (∀ p ∈ qs, p ∈ rs) → FillOk rid fid rs bs m → FillOk rid fid rs (bs.drop (8 * qs.length)) (fillM rid qs bs m)
  | [], bs, m, _, h => by simpa [fillM] using h
  | p :: qs, bs, m, hs, h => by
    have := FillOk.many qs (bs.drop 8) _ (fun q hq => hs q (by simp [hq])) (h.step p (hs p (by simp)) (sg64 (leN (bs.take 8))))
    rw [List.drop_drop, show 8 + 8 * qs.length = 8 * (p :: qs).length by simp; omega] at this
    exact this

theorem setC_len (m : List Ent) (p : Nat × Nat) (x : D) : (setC m p x).length = m.length := by
  unfold setC; split <;> simp

theorem fillM_len (rid : Nat) : ∀ (rs : List (Nat × Nat)) (bs : List (BitVec 8)) (m : List Ent), (fillM rid rs bs m).length = m.length
  | [], _, _ => rfl
  | p :: rs, bs, m => by rw [fillM, fillM_len rid rs, setC_len, List.length_set]

theorem fill31 (m : List Ent) (rid fid : Nat) (rs : List (Nat × Nat)) (bs : List (BitVec 8)) (h : FillOk rid fid rs bs m) (hl : 8 * rs.length ≤ bs.length) (hl62 : rs.length < 2 ^ 62) :
    CallT Try.prog 31 [.fn 32 [.ref rid 0 0 0] [], .own fid 0] m fun d m' => d = .tup [] ∧ m' = fillM rid rs bs m := by
  have hfl : fid < m.length := (List.getElem?_eq_some_iff.1 h.hfid).1
  have hrl : rid < m.length := (List.getElem?_eq_some_iff.1 h.hrid).1
  have hlen : (refsD rs).length = rs.length := by simp [refsD]
  refine callT_of k31_ok k31_name (Z.T hmix ?_)
  simp only [k31, k31c, h.hfid, hlen, cast0, eq_self, not_bool, gP_T, gP_F, bne_self_eq_false, bne_iff_ne, bne_eq_false_iff_eq, Bool.false_eq_true, Bool.true_eq_false, false_implies, true_implies, implies_true, not_true_eq_false, not_false_eq_true, beq_self_eq_true, RegZ_nil, RegZ_op, RegZ_opg, RegZ_callF, RegZ_callFg, DrX_zero, DrX_op, DrX_opg, DrX_callF, DrX_callFg, Z_skip, Z_reg, Z_draw, Z_any, Z_seq, Z_cond, Z_block, Z_loop, Z_exit, Z_ret, pin, KO_ap, KZ_normal, KZ_exit, KZ_ret, KS_normal, KS_exit, KS_ret, KB_normal, KB_exit, KB_ret, KM_normal, KM_exit, KM_ret, KI_normal, KI_exit, KI_ret, andT_ite, map_ite, Option.bind_some, Int.reduceLT, Nat.mul_one, Int.toNat_natCast, Int.natCast_nonneg, EndT_normal, EndT_ret, EndT_exit, endX_some, tupD_one, tupD_two, tupD_nil, Nat.lt_add_one, Nat.zero_lt_succ, C.lps, C.isLoop, bsliceD, contents, true_and, and_true, and_self, Bool.or_false, Bool.false_or, Bool.or_true, Bool.true_or, Bool.or_self, gate, evalI, St.ev, St.put, andT_some, List.getD_cons_succ, List.getD_cons_zero, List.cons_append, List.nil_append, List.replicate,
  List.length_cons, List.length_nil, Nat.reduceSub, Nat.reduceAdd, List.set_cons_succ, List.set_cons_zero, List.map_cons, List.map_nil, Option.map_some, Option.map_none, ← binJ_eq, binJ, decide_true, cond_true, cond_false, if_true, if_false,
  decide_eq_true_eq, decide_eq_false_iff_not, lenOfD, Bool.true_and, Bool.and_true, ressD, resD, D.ok, D.cells, one, reduceCtorEq, Nat.reduceEqDiff, Nat.succ_ne_self, Bool.not_true, Bool.not_false, ← wrapF_eq, Int.reduceEq, decide_false, beq_iff_eq, beq_eq_false_iff_ne, ne_eq]
  refine T.clo ?_
  refine T.blkI rs.length (fun i => ⟨[.fn 32 [.ref rid 0 0 0] [], .dead, .dead, .dead, .dead, .dead, .own fid 0, .v (.int .i64 rs.length), .v (.int .i64 i), .dead, .dead, .dead, .dead, .dead, .dead, .dead, .dead], fillM rid (rs.take i) bs m⟩) ?_ ?_ ?_ (by repeat (first | exact stab_S | exact stab_C | exact stab_I | exact stab_M | refine stab_B ?_)) ?_
  · exact At.same _ _ _ (by repeat (first | exact Subs.refl' _ | refine Subs.cons (Sub.refl _) ?_ | refine Subs.cons (Sub.toDead _) ?_))
  · intro i hi
    have hk := FillOk.many (rs.take i) bs m (fun p hp => List.mem_of_mem_take hp) h
    exact ⟨by simp [fillM_len], by simp [belows, below, fillM_len, hfl, hrl], hk.hbelow⟩
  · intro i hi
    refine Z.T hmix ?_
    rcases Nat.lt_or_ge i rs.length with hi' | hi'
    · have hk := FillOk.many (rs.take i) bs m (fun p hp => List.mem_of_mem_take hp) h
      rw [List.length_take, Nat.min_eq_left hi] at hk
      have hget : (refsD rs)[i]? = some (.ref rs[i].1 0 0 rs[i].2) := by simp [refsD, hi']
      simp only [cast0, eq_self, not_bool, gP_T, gP_F, bne_self_eq_false, bne_iff_ne, bne_eq_false_iff_eq, Bool.false_eq_true, Bool.true_eq_false, false_implies, true_implies, implies_true, not_true_eq_false, not_false_eq_true, beq_self_eq_true, RegZ_nil, RegZ_op, RegZ_opg, RegZ_callF, RegZ_callFg, DrX_zero, DrX_op, DrX_opg, DrX_callF, DrX_callFg, Z_skip, Z_reg, Z_draw, Z_any, Z_seq, Z_cond, Z_block, Z_loop, Z_exit, Z_ret, pin, KO_ap, KZ_normal, KZ_exit, KZ_ret, KS_normal, KS_exit, KS_ret, KB_normal, KB_exit, KB_ret, KM_normal, KM_exit, KM_ret, KI_normal, KI_exit, KI_ret, andT_ite, map_ite, Option.bind_some, Int.reduceLT, Nat.mul_one, Int.toNat_natCast, Int.natCast_nonneg, EndT_normal, EndT_ret, EndT_exit, endX_some, tupD_one, tupD_two, tupD_nil, Nat.lt_add_one, Nat.zero_lt_succ, C.lps, C.isLoop, bsliceD, contents, true_and, and_true, and_self, Bool.or_false, Bool.false_or, Bool.or_true, Bool.true_or, Bool.or_self, gate, evalI, St.ev, St.put, andT_some, List.getD_cons_succ, List.getD_cons_zero, List.cons_append, List.nil_append, List.replicate,
  List.length_cons, List.length_nil, Nat.reduceSub, Nat.reduceAdd, List.set_cons_succ, List.set_cons_zero, List.map_cons, List.map_nil, Option.map_some, Option.map_none, ← binJ_eq, binJ, decide_true, cond_true, cond_false, if_true, if_false,
  decide_eq_true_eq, decide_eq_false_iff_not, lenOfD, Bool.true_and, Bool.and_true, ressD, resD, D.ok, D.cells, one, reduceCtorEq, Nat.reduceEqDiff, Nat.succ_ne_self, Bool.not_true, Bool.not_false, ← wrapF_eq, Int.reduceEq, decide_false, beq_iff_eq, beq_eq_false_iff_ne, ne_eq, Tm.part, List.getElem?_cons_zero, List.getElem?_cons_succ, List.drop_succ_cons, List.drop_zero, List.take_succ_cons, List.take_zero, List.take_nil, List.drop_nil, Nat.zero_add, Nat.add_zero, List.length_map, Nat.le_refl, Nat.reduceLeDiff, Nat.reduceLT, Int.reduceLE, Int.reduceToNat, Nat.reducePow, Int.reducePow, ite_true, ite_false, D.upd, splice, List.append_nil, buildD, bound, sliceD, leaves, natlt, hi', hlen, hk.hfid, hget, RegZ_call]
      rw [RegZ_call (k := 32) (first := [.ref rid 0 0 0]) (caps := []) rfl]
      simp only [cast0, eq_self, not_bool, gP_T, gP_F, bne_self_eq_false, bne_iff_ne, bne_eq_false_iff_eq, Bool.false_eq_true, Bool.true_eq_false, false_implies, true_implies, implies_true, not_true_eq_false, not_false_eq_true, beq_self_eq_true, RegZ_nil, RegZ_op, RegZ_opg, RegZ_callF, RegZ_callFg, DrX_zero, DrX_op, DrX_opg, DrX_callF, DrX_callFg, Z_skip, Z_reg, Z_draw, Z_any, Z_seq, Z_cond, Z_block, Z_loop, Z_exit, Z_ret, pin, KO_ap, KZ_normal, KZ_exit, KZ_ret, KS_normal, KS_exit, KS_ret, KB_normal, KB_exit, KB_ret, KM_normal, KM_exit, KM_ret, KI_normal, KI_exit, KI_ret, andT_ite, map_ite, Option.bind_some, Int.reduceLT, Nat.mul_one, Int.toNat_natCast, Int.natCast_nonneg, EndT_normal, EndT_ret, EndT_exit, endX_some, tupD_one, tupD_two, tupD_nil, Nat.lt_add_one, Nat.zero_lt_succ, C.lps, C.isLoop, bsliceD, contents, true_and, and_true, and_self, Bool.or_false, Bool.false_or, Bool.or_true, Bool.true_or, Bool.or_self, gate, evalI, St.ev, St.put, andT_some, List.getD_cons_succ, List.getD_cons_zero, List.cons_append, List.nil_append, List.replicate,
  List.length_cons, List.length_nil, Nat.reduceSub, Nat.reduceAdd, List.set_cons_succ, List.set_cons_zero, List.map_cons, List.map_nil, Option.map_some, Option.map_none, ← binJ_eq, binJ, decide_true, cond_true, cond_false, if_true, if_false,
  decide_eq_true_eq, decide_eq_false_iff_not, lenOfD, Bool.true_and, Bool.and_true, ressD, resD, D.ok, D.cells, one, reduceCtorEq, Nat.reduceEqDiff, Nat.succ_ne_self, Bool.not_true, Bool.not_false, ← wrapF_eq, Int.reduceEq, decide_false, beq_iff_eq, beq_eq_false_iff_ne, ne_eq]
      refine callX_eq (word32 _ rid 0 _ hk.hrid hk.hbelow (by rw [List.length_drop]; omega)) ?_
      obtain ⟨c1, c2, S, d, c3, c4⟩ := hk.hcell rs[i] (List.getElem_mem hi')
      have hc5 : ((fillM rid (rs.take i) bs m).set rid (.live 1 0 [.agg [.sl 1 (bytesD ((bs.drop (8 * i)).drop 8))]]))[rs[i].1]? = some (.live S 0 [d]) := by rw [getq_ne (Ne.symm c1), c3]
      have hd : d.ok = true ∧ rs[i].2 + 1 ≤ d.cells.length := by
        rcases c4 with ⟨l, rfl, hl'⟩ | ⟨k, rfl, hk'⟩
        · exact ⟨rfl, hl'⟩
        · exact ⟨rfl, by rw [hk']; simp [i64, D.cells]⟩
      have hsn : fillM rid (rs.take (i + 1)) bs m = (List.set (fillM rid (rs.take i) bs m) rid (.live 1 0 [.agg [.sl 1 (bytesD ((bs.drop (8 * i)).drop 8))]])).set rs[i].1 (.live S 0 [d.upd rs[i].2 [i64 (sg64 (leN ((bs.drop (8 * i)).take 8)))]]) := by
        rw [List.take_succ_eq_append_getElem hi', fillM_snoc, List.length_take, Nat.min_eq_left hi]
        unfold setC
        simp only [rdr, hc5]
      have hwf := wrapSu i (by omega)
      generalize hM : List.set (fillM rid (rs.take i) bs m) rid (.live 1 0 [.agg [.sl 1 (bytesD ((bs.drop (8 * i)).drop 8))]]) = M at hc5 hsn ⊢
      rcases c4 with ⟨l, rfl, hl'⟩ | ⟨k, rfl, hk'⟩
      · simp only [cast0, eq_self, not_bool, gP_T, gP_F, bne_self_eq_false, bne_iff_ne, bne_eq_false_iff_eq, Bool.false_eq_true, Bool.true_eq_false, false_implies, true_implies, implies_true, not_true_eq_false, not_false_eq_true, beq_self_eq_true, RegZ_nil, RegZ_op, RegZ_opg, RegZ_callF, RegZ_callFg, DrX_zero, DrX_op, DrX_opg, DrX_callF, DrX_callFg, Z_skip, Z_reg, Z_draw, Z_any, Z_seq, Z_cond, Z_block, Z_loop, Z_exit, Z_ret, pin, KO_ap, KZ_normal, KZ_exit, KZ_ret, KS_normal, KS_exit, KS_ret, KB_normal, KB_exit, KB_ret, KM_normal, KM_exit, KM_ret, KI_normal, KI_exit, KI_ret, andT_ite, map_ite, Option.bind_some, Int.reduceLT, Nat.mul_one, Int.toNat_natCast, Int.natCast_nonneg, EndT_normal, EndT_ret, EndT_exit, endX_some, tupD_one, tupD_two, tupD_nil, Nat.lt_add_one, Nat.zero_lt_succ, C.lps, C.isLoop, bsliceD, contents, true_and, and_true, and_self, Bool.or_false, Bool.false_or, Bool.or_true, Bool.true_or, Bool.or_self, gate, evalI, St.ev, St.put, andT_some, List.getD_cons_succ, List.getD_cons_zero, List.cons_append, List.nil_append, List.replicate,
  List.length_cons, List.length_nil, Nat.reduceSub, Nat.reduceAdd, List.set_cons_succ, List.set_cons_zero, List.map_cons, List.map_nil, Option.map_some, Option.map_none, ← binJ_eq, binJ, decide_true, cond_true, cond_false, if_true, if_false,
  decide_eq_true_eq, decide_eq_false_iff_not, lenOfD, Bool.true_and, Bool.and_true, ressD, resD, D.ok, D.cells, one, reduceCtorEq, Nat.reduceEqDiff, Nat.succ_ne_self, Bool.not_true, Bool.not_false, ← wrapF_eq, Int.reduceEq, decide_false, beq_iff_eq, beq_eq_false_iff_ne, ne_eq, Tm.part, List.getElem?_cons_zero, List.getElem?_cons_succ, List.drop_succ_cons, List.drop_zero, List.take_succ_cons, List.take_zero, List.take_nil, List.drop_nil, Nat.zero_add, Nat.add_zero, List.length_map, Nat.le_refl, Nat.reduceLeDiff, Nat.reduceLT, Int.reduceLE, Int.reduceToNat, Nat.reducePow, Int.reducePow, ite_true, ite_false, D.upd, splice, List.append_nil, buildD, bound, sliceD, leaves, hc5, i64, Nat.succ_le_of_lt hl', hwf, hi'] at hsn ⊢
        exact ⟨by repeat (first | exact Subs.refl' _ | refine Subs.cons (Sub.refl _) ?_ | refine Subs.cons (Sub.toDead _) ?_), [], by rw [hsn, List.append_nil]⟩
      · simp only [cast0, eq_self, not_bool, gP_T, gP_F, bne_self_eq_false, bne_iff_ne, bne_eq_false_iff_eq, Bool.false_eq_true, Bool.true_eq_false, false_implies, true_implies, implies_true, not_true_eq_false, not_false_eq_true, beq_self_eq_true, RegZ_nil, RegZ_op, RegZ_opg, RegZ_callF, RegZ_callFg, DrX_zero, DrX_op, DrX_opg, DrX_callF, DrX_callFg, Z_skip, Z_reg, Z_draw, Z_any, Z_seq, Z_cond, Z_block, Z_loop, Z_exit, Z_ret, pin, KO_ap, KZ_normal, KZ_exit, KZ_ret, KS_normal, KS_exit, KS_ret, KB_normal, KB_exit, KB_ret, KM_normal, KM_exit, KM_ret, KI_normal, KI_exit, KI_ret, andT_ite, map_ite, Option.bind_some, Int.reduceLT, Nat.mul_one, Int.toNat_natCast, Int.natCast_nonneg, EndT_normal, EndT_ret, EndT_exit, endX_some, tupD_one, tupD_two, tupD_nil, Nat.lt_add_one, Nat.zero_lt_succ, C.lps, C.isLoop, bsliceD, contents, true_and, and_true, and_self, Bool.or_false, Bool.false_or, Bool.or_true, Bool.true_or, Bool.or_self, gate, evalI, St.ev, St.put, andT_some, List.getD_cons_succ, List.getD_cons_zero, List.cons_append, List.nil_append, List.replicate,
  List.length_cons, List.length_nil, Nat.reduceSub, Nat.reduceAdd, List.set_cons_succ, List.set_cons_zero, List.map_cons, List.map_nil, Option.map_some, Option.map_none, ← binJ_eq, binJ, decide_true, cond_true, cond_false, if_true, if_false,
  decide_eq_true_eq, decide_eq_false_iff_not, lenOfD, Bool.true_and, Bool.and_true, ressD, resD, D.ok, D.cells, one, reduceCtorEq, Nat.reduceEqDiff, Nat.succ_ne_self, Bool.not_true, Bool.not_false, ← wrapF_eq, Int.reduceEq, decide_false, beq_iff_eq, beq_eq_false_iff_ne, ne_eq, Tm.part, List.getElem?_cons_zero, List.getElem?_cons_succ, List.drop_succ_cons, List.drop_zero, List.take_succ_cons, List.take_zero, List.take_nil, List.drop_nil, Nat.zero_add, Nat.add_zero, List.length_map, Nat.le_refl, Nat.reduceLeDiff, Nat.reduceLT, Int.reduceLE, Int.reduceToNat, Nat.reducePow, Int.reducePow, ite_true, ite_false, D.upd, splice, List.append_nil, buildD, bound, sliceD, leaves, hc5, i64, hwf, hi', hk', List.headD_cons] at hsn ⊢
        exact ⟨by repeat (first | exact Subs.refl' _ | refine Subs.cons (Sub.refl _) ?_ | refine Subs.cons (Sub.toDead _) ?_), [], by rw [hsn, List.append_nil]⟩
    · obtain rfl : i = rs.length := by omega
      simp only [cast0, eq_self, not_bool, gP_T, gP_F, bne_self_eq_false, bne_iff_ne, bne_eq_false_iff_eq, Bool.false_eq_true, Bool.true_eq_false, false_implies, true_implies, implies_true, not_true_eq_false, not_false_eq_true, beq_self_eq_true, RegZ_nil, RegZ_op, RegZ_opg, RegZ_callF, RegZ_callFg, DrX_zero, DrX_op, DrX_opg, DrX_callF, DrX_callFg, Z_skip, Z_reg, Z_draw, Z_any, Z_seq, Z_cond, Z_block, Z_loop, Z_exit, Z_ret, pin, KO_ap, KZ_normal, KZ_exit, KZ_ret, KS_normal, KS_exit, KS_ret, KB_normal, KB_exit, KB_ret, KM_normal, KM_exit, KM_ret, KI_normal, KI_exit, KI_ret, andT_ite, map_ite, Option.bind_some, Int.reduceLT, Nat.mul_one, Int.toNat_natCast, Int.natCast_nonneg, EndT_normal, EndT_ret, EndT_exit, endX_some, tupD_one, tupD_two, tupD_nil, Nat.lt_add_one, Nat.zero_lt_succ, C.lps, C.isLoop, bsliceD, contents, true_and, and_true, and_self, Bool.or_false, Bool.false_or, Bool.or_true, Bool.true_or, Bool.or_self, gate, evalI, St.ev, St.put, andT_some, List.getD_cons_succ, List.getD_cons_zero, List.cons_append, List.nil_append, List.replicate,
  List.length_cons, List.length_nil, Nat.reduceSub, Nat.reduceAdd, List.set_cons_succ, List.set_cons_zero, List.map_cons, List.map_nil, Option.map_some, Option.map_none, ← binJ_eq, binJ, decide_true, cond_true, cond_false, if_true, if_false,
  decide_eq_true_eq, decide_eq_false_iff_not, lenOfD, Bool.true_and, Bool.and_true, ressD, resD, D.ok, D.cells, one, reduceCtorEq, Nat.reduceEqDiff, Nat.succ_ne_self, Bool.not_true, Bool.not_false, ← wrapF_eq, Int.reduceEq, decide_false, beq_iff_eq, beq_eq_false_iff_ne, ne_eq, Tm.part, List.getElem?_cons_zero, List.getElem?_cons_succ, List.drop_succ_cons, List.drop_zero, List.take_succ_cons, List.take_zero, List.take_nil, List.drop_nil, Nat.zero_add, Nat.add_zero, List.length_map, Nat.le_refl, Nat.reduceLeDiff, Nat.reduceLT, Int.reduceLE, Int.reduceToNat, Nat.reducePow, Int.reducePow, ite_true, ite_false, D.upd, splice, List.append_nil, buildD, bound, sliceD, leaves, natlt, Nat.lt_irrefl]
      exact At.same _ _ _ (by repeat (first | exact Subs.refl' _ | refine Subs.cons (Sub.refl _) ?_ | refine Subs.cons (Sub.toDead _) ?_))
  · refine Clo.of ?_
    simp only [cast0, eq_self, not_bool, gP_T, gP_F, bne_self_eq_false, bne_iff_ne, bne_eq_false_iff_eq, Bool.false_eq_true, Bool.true_eq_false, false_implies, true_implies, implies_true, not_true_eq_false, not_false_eq_true, beq_self_eq_true, RegZ_nil, RegZ_op, RegZ_opg, RegZ_callF, RegZ_callFg, DrX_zero, DrX_op, DrX_opg, DrX_callF, DrX_callFg, Z_skip, Z_reg, Z_draw, Z_any, Z_seq, Z_cond, Z_block, Z_loop, Z_exit, Z_ret, pin, KO_ap, KZ_normal, KZ_exit, KZ_ret, KS_normal, KS_exit, KS_ret, KB_normal, KB_exit, KB_ret, KM_normal, KM_exit, KM_ret, KI_normal, KI_exit, KI_ret, andT_ite, map_ite, Option.bind_some, Int.reduceLT, Nat.mul_one, Int.toNat_natCast, Int.natCast_nonneg, EndT_normal, EndT_ret, EndT_exit, endX_some, tupD_one, tupD_two, tupD_nil, Nat.lt_add_one, Nat.zero_lt_succ, C.lps, C.isLoop, bsliceD, contents, true_and, and_true, and_self, Bool.or_false, Bool.false_or, Bool.or_true, Bool.true_or, Bool.or_self, gate, evalI, St.ev, St.put, andT_some, List.getD_cons_succ, List.getD_cons_zero, List.cons_append, List.nil_append, List.replicate,
  List.length_cons, List.length_nil, Nat.reduceSub, Nat.reduceAdd, List.set_cons_succ, List.set_cons_zero, List.map_cons, List.map_nil, Option.map_some, Option.map_none, ← binJ_eq, binJ, decide_true, cond_true, cond_false, if_true, if_false,
  decide_eq_true_eq, decide_eq_false_iff_not, lenOfD, Bool.true_and, Bool.and_true, ressD, resD, D.ok, D.cells, one, reduceCtorEq, Nat.reduceEqDiff, Nat.succ_ne_self, Bool.not_true, Bool.not_false, ← wrapF_eq, Int.reduceEq, decide_false, beq_iff_eq, beq_eq_false_iff_ne, ne_eq, List.take_length]
end Go.Proofs.Ytjbhgmeokoconaa
