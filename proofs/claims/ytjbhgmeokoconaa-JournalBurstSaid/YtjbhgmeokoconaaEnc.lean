/-
  Records and their encodings: both Encode functions.
-/
import Derived.Test.YtjbhgmeokoconaaPut
set_option linter.unusedSimpArgs false
set_option linter.unusedVariables false
set_option maxHeartbeats 2000000
namespace Go.Proofs.Ytjbhgmeokoconaa
open Go.Tm
set_option maxRecDepth 10000

structure Ps where
  d : Int
  m : Int
  k : Int
  c : Int

structure Rc where
  h : Int
  mo : Int
  d : Int
  ni : Int
  nh : Int
  nm : Int
  nk : Int
  nc : Int
  ps : List Ps

def psD (p : Ps) : D := .agg [i64 p.d, i64 p.m, i64 p.k, i64 p.c]
def pssD (l : List Ps) : D := .sl 4 (l.map psD)
def rcD (r : Rc) : D := .agg [i64 r.h, i64 r.mo, i64 r.d, i64 r.ni, i64 r.nh, i64 r.nm, i64 r.nk, i64 r.nc, pssD r.ps]

theorem pss_free : ∀ l : List Ps, idfrees (l.map psD) = true
  | [] => rfl
  | p :: l => by simp only [List.map_cons, idfrees, Bool.and_eq_true]; exact ⟨rfl, pss_free l⟩

theorem pss_get {l : List Ps} {i : Nat} (h : i < l.length) : (l.map psD)[i]? = some (.agg [.v (.int .i64 l[i].d), .v (.int .i64 l[i].m), .v (.int .i64 l[i].k), .v (.int .i64 l[i].c)]) := by
  rw [List.getElem?_map, List.getElem?_eq_getElem h]; rfl

theorem rc_free (r : Rc) : idfree (rcD r) = true := by
  simp [rcD, idfree, idfrees, i64, pssD, pss_free]

def psW (p : Ps) : List Int := [p.d, p.m, p.k, p.c]
def rcW (r : Rc) : List Int := [r.h, r.mo, r.d, r.ni, r.nh, r.nm, r.nk, r.nc, (r.ps.length : Int)]

/-- The payload of a record's encoding. -/
def payload (r : Rc) : List (BitVec 8) := wordsB (rcW r) ++ wordsB (r.ps.flatMap psW)

/-- The encoding of a record. -/
def encB (r : Rc) : List (BitVec 8) := bytesLE 4 (72 + 32 * r.ps.length) ++ payload r ++ bytesLE 4 (crcRef (payload r)).toNat

theorem flat_len : ∀ l : List Ps, (l.flatMap psW).length = 4 * l.length
  | [] => rfl
  | p :: l => by
    have h := flat_len l
    simp only [List.flatMap_cons, List.length_append, List.length_cons, psW, List.length_nil] at h ⊢
    omega

theorem payload_len (r : Rc) : (payload r).length = 72 + 32 * r.ps.length := by
  simp only [payload, List.length_append, wordsB_len, flat_len]
  simp only [rcW, List.length_cons, List.length_nil]
  omega

theorem wordsB_nil : wordsB [] = [] := rfl
theorem take_flat {l : List Ps} {i : Nat} (h : i < l.length) : wordsB ((l.take (i + 1)).flatMap psW) = wordsB ((l.take i).flatMap psW) ++ wordsB (psW l[i]) := by
  rw [List.take_succ_eq_append_getElem h]
  simp only [List.flatMap_append, List.flatMap_cons, List.flatMap_nil, List.append_nil, wordsB]

theorem flat_take {l : List Ps} {i : Nat} (h : i ≤ l.length) : ((l.take i).flatMap psW).length = 4 * i := by
  rw [flat_len, List.length_take, Nat.min_eq_left h]

theorem sumV (m : List Ent) (id v lo n : Nat) (L : List (BitVec 8)) (h : m[id]? = some (.live 1 v (bytesD L))) (hl : lo + n ≤ L.length) (h63 : n < 2 ^ 63) :
    CallT Try.prog 11 [.view id v lo n] m fun d m' => d = i64 (crcRef ((L.drop lo).take n)).toNat ∧ m' = m := by
  refine callB_of (R := fun d => d = i64 (crcRef ((L.drop lo).take n)).toNat) 3 ?_
  rw [List.map_cons, List.map_nil, froz_view h (bytesD_free L) (by rw [bytesD_len]; exact hl)]
  rw [show (List.take n (List.drop lo (bytesD L))) = bytesD ((L.drop lo).take n) by simp [bytesD, List.map_take, List.map_drop]]
  exact (sum _ (by simp; omega)).mono fun d m' h => ⟨h, by rw [h]; rfl⟩

theorem mod32 {c : Nat} (h : c < 2 ^ 32) : ((c : Int) % 4294967296).toNat = c := by omega

theorem encB_len (r : Rc) : (encB r).length = 80 + 32 * r.ps.length := by
  simp only [encB, List.length_append, bytesLE_len, payload_len]; omega

theorem wordsB_append (a b : List Int) : wordsB (a ++ b) = wordsB a ++ wordsB b := by simp only [wordsB, List.flatMap_append]

def nilD : D := .v (.slice none 0 0)

/-- What Encode answers. -/
def encR (r : Rc) : D := if r.ps.length ≤ 4096 then .tup [.sl 1 (bytesD (encB r)), i64 0] else .tup [nilD, i64 4]

theorem enc13 (r : Rc) (hlen : r.ps.length < 2 ^ 63) : CallT Try.prog 13 [rcD r] [] fun d m' => froz 5 m' d = encR r := by
  refine callT_of k13_ok k13_name (Z.T hmix ?_)
  simp only [k13, k13c, rcD, pssD, i64, Tm.part, List.getElem?_cons_zero, List.getElem?_cons_succ, List.drop_succ_cons, List.drop_zero, List.take_succ_cons, List.take_zero, List.take_nil, List.drop_nil, Nat.zero_add, Nat.add_zero, List.length_map, Nat.le_refl, Nat.reduceLeDiff, Nat.reduceLT, Int.reduceLE, Int.reduceToNat, Nat.reducePow, Int.reducePow, ite_true, ite_false, D.upd, splice, List.append_nil, buildD, bound, sliceD, leaves, cast0, eq_self, not_bool, gP_T, gP_F, bne_self_eq_false, bne_iff_ne, bne_eq_false_iff_eq, Bool.false_eq_true, Bool.true_eq_false, false_implies, true_implies, implies_true, not_true_eq_false, not_false_eq_true, beq_self_eq_true, RegZ_nil, RegZ_op, RegZ_opg, RegZ_callF, RegZ_callFg, DrX_zero, DrX_op, DrX_opg, DrX_callF, DrX_callFg, Z_skip, Z_reg, Z_draw, Z_any, Z_seq, Z_cond, Z_block, Z_loop, Z_exit, Z_ret, pin, KO_ap, KZ_normal, KZ_exit, KZ_ret, KS_normal, KS_exit, KS_ret, KB_normal, KB_exit, KB_ret, KM_normal, KM_exit, KM_ret, KI_normal, KI_exit, KI_ret, andT_ite, map_ite, Option.bind_some, Int.reduceLT, Nat.mul_one, Int.toNat_natCast, Int.natCast_nonneg, EndT_normal, EndT_ret, EndT_exit, endX_some, tupD_one, tupD_two, tupD_nil, Nat.lt_add_one, Nat.zero_lt_succ, C.lps, C.isLoop, bsliceD, contents, true_and, and_true, and_self, Bool.or_false, Bool.false_or, Bool.or_true, Bool.true_or, Bool.or_self, gate, evalI, St.ev, St.put, andT_some, List.getD_cons_succ, List.getD_cons_zero, List.cons_append, List.nil_append, List.replicate,
  List.length_cons, List.length_nil, Nat.reduceSub, Nat.reduceAdd, List.set_cons_succ, List.set_cons_zero, List.map_cons, List.map_nil, Option.map_some, Option.map_none, ← binJ_eq, binJ, decide_true, cond_true, cond_false, if_true, if_false,
  decide_eq_true_eq, decide_eq_false_iff_not, lenOfD, Bool.true_and, Bool.and_true, ressD, resD, D.ok, D.cells, one, reduceCtorEq, Nat.reduceEqDiff, Nat.succ_ne_self, Bool.not_true, Bool.not_false, ← wrapF_eq, Int.reduceEq, decide_false, beq_iff_eq, beq_eq_false_iff_ne, ne_eq]
  refine gP.mk (fun h => ?_) (fun h => ?_)
  · rw [encR, if_neg (by omega)]
    rfl
  · have hk : r.ps.length ≤ 4096 := by omega
    have hk' : ((r.ps.length : Nat) : Int) ≤ 4096 := by omega
    simp (disch := omega) only [wrapI]
    refine ⟨by omega, ?_⟩
    refine callX_eq (half22 _ 1 0 [] _ rfl (by simp [Ent.below, belows, below, belows_free, pss_free]) rfl (by simp)) ?_
    simp only [cast0, eq_self, not_bool, gP_T, gP_F, bne_self_eq_false, bne_iff_ne, bne_eq_false_iff_eq, Bool.false_eq_true, Bool.true_eq_false, false_implies, true_implies, implies_true, not_true_eq_false, not_false_eq_true, beq_self_eq_true, RegZ_nil, RegZ_op, RegZ_opg, RegZ_callF, RegZ_callFg, DrX_zero, DrX_op, DrX_opg, DrX_callF, DrX_callFg, Z_skip, Z_reg, Z_draw, Z_any, Z_seq, Z_cond, Z_block, Z_loop, Z_exit, Z_ret, pin, KO_ap, KZ_normal, KZ_exit, KZ_ret, KS_normal, KS_exit, KS_ret, KB_normal, KB_exit, KB_ret, KM_normal, KM_exit, KM_ret, KI_normal, KI_exit, KI_ret, andT_ite, map_ite, Option.bind_some, Int.reduceLT, Nat.mul_one, Int.toNat_natCast, Int.natCast_nonneg, EndT_normal, EndT_ret, EndT_exit, endX_some, tupD_one, tupD_two, tupD_nil, Nat.lt_add_one, Nat.zero_lt_succ, C.lps, C.isLoop, bsliceD, contents, true_and, and_true, and_self, Bool.or_false, Bool.false_or, Bool.or_true, Bool.true_or, Bool.or_self, gate, evalI, St.ev, St.put, andT_some, List.getD_cons_succ, List.getD_cons_zero, List.cons_append, List.nil_append, List.replicate,
  List.length_cons, List.length_nil, Nat.reduceSub, Nat.reduceAdd, List.set_cons_succ, List.set_cons_zero, List.map_cons, List.map_nil, Option.map_some, Option.map_none, ← binJ_eq, binJ, decide_true, cond_true, cond_false, if_true, if_false,
  decide_eq_true_eq, decide_eq_false_iff_not, lenOfD, Bool.true_and, Bool.and_true, ressD, resD, D.ok, D.cells, one, reduceCtorEq, Nat.reduceEqDiff, Nat.succ_ne_self, Bool.not_true, Bool.not_false, ← wrapF_eq, Int.reduceEq, decide_false, beq_iff_eq, beq_eq_false_iff_ne, ne_eq, Tm.part, List.getElem?_cons_zero, List.getElem?_cons_succ, List.drop_succ_cons, List.drop_zero, List.take_succ_cons, List.take_zero, List.take_nil, List.drop_nil, Nat.zero_add, Nat.add_zero, List.length_map, Nat.le_refl, Nat.reduceLeDiff, Nat.reduceLT, Int.reduceLE, Int.reduceToNat, Nat.reducePow, Int.reducePow, ite_true, ite_false, D.upd, splice, List.append_nil, buildD, bound, sliceD, leaves, i64]
    refine callX_eq (words23 _ 1 4 3 _ [r.h, r.mo, r.d, r.ni, r.nh, r.nm, r.nk, r.nc, (r.ps.length : Int)] rfl rfl (by decide) (by simp [Ent.below, belows, below, belows_free, pss_free, bytesD_free]) (by simp [bytesD_free]) (by simp [bytesD_len, bytesLE_len])) ?_
    simp only [cast0, eq_self, not_bool, gP_T, gP_F, bne_self_eq_false, bne_iff_ne, bne_eq_false_iff_eq, Bool.false_eq_true, Bool.true_eq_false, false_implies, true_implies, implies_true, not_true_eq_false, not_false_eq_true, beq_self_eq_true, RegZ_nil, RegZ_op, RegZ_opg, RegZ_callF, RegZ_callFg, DrX_zero, DrX_op, DrX_opg, DrX_callF, DrX_callFg, Z_skip, Z_reg, Z_draw, Z_any, Z_seq, Z_cond, Z_block, Z_loop, Z_exit, Z_ret, pin, KO_ap, KZ_normal, KZ_exit, KZ_ret, KS_normal, KS_exit, KS_ret, KB_normal, KB_exit, KB_ret, KM_normal, KM_exit, KM_ret, KI_normal, KI_exit, KI_ret, andT_ite, map_ite, Option.bind_some, Int.reduceLT, Nat.mul_one, Int.toNat_natCast, Int.natCast_nonneg, EndT_normal, EndT_ret, EndT_exit, endX_some, tupD_one, tupD_two, tupD_nil, Nat.lt_add_one, Nat.zero_lt_succ, C.lps, C.isLoop, bsliceD, contents, true_and, and_true, and_self, Bool.or_false, Bool.false_or, Bool.or_true, Bool.true_or, Bool.or_self, gate, evalI, St.ev, St.put, andT_some, List.getD_cons_succ, List.getD_cons_zero, List.cons_append, List.nil_append, List.replicate,
  List.length_cons, List.length_nil, Nat.reduceSub, Nat.reduceAdd, List.set_cons_succ, List.set_cons_zero, List.map_cons, List.map_nil, Option.map_some, Option.map_none, ← binJ_eq, binJ, decide_true, cond_true, cond_false, if_true, if_false,
  decide_eq_true_eq, decide_eq_false_iff_not, lenOfD, Bool.true_and, Bool.and_true, ressD, resD, D.ok, D.cells, one, reduceCtorEq, Nat.reduceEqDiff, Nat.succ_ne_self, Bool.not_true, Bool.not_false, ← wrapF_eq, Int.reduceEq, decide_false, beq_iff_eq, beq_eq_false_iff_ne, ne_eq, Tm.part, List.getElem?_cons_zero, List.getElem?_cons_succ, List.drop_succ_cons, List.drop_zero, List.take_succ_cons, List.take_zero, List.take_nil, List.drop_nil, Nat.zero_add, Nat.add_zero, List.length_map, Nat.le_refl, Nat.reduceLeDiff, Nat.reduceLT, Int.reduceLE, Int.reduceToNat, Nat.reducePow, Int.reducePow, ite_true, ite_false, D.upd, splice, List.append_nil, buildD, bound, sliceD, leaves, i64]
    obtain ⟨lenB, hlenB⟩ : ∃ x, bytesLE 4 ((72 + 32 * (r.ps.length : Int)) % 4294967296).toNat = x := ⟨_, rfl⟩
    have hlB : lenB.length = 4 := by rw [← hlenB, bytesLE_len]
    rw [hlenB]
    refine T.blkI r.ps.length (fun i => ⟨[.dead, .dead, .dead, .dead, .dead, .dead, .own 1 (76 + 32 * i), .dead, .dead, .dead, .dead, .dead, .dead, .dead, .dead, .dead, .dead, .dead, .dead, .dead, .dead, .dead, .dead, .dead, .dead, .dead, .dead, .dead, .dead, .dead, .dead, .dead, .dead, .dead, .dead, .dead, .dead, .dead, .dead, .dead, .dead, .dead, .dead, .dead, .dead, .dead, .dead, .dead, .sl 4 (r.ps.map psD), .v (.int .i64 r.ps.length), .v (.int .i64 i), .dead, .dead, .dead, .dead, .dead, .dead, .dead, .dead, .dead, .dead, .dead, .dead, .dead, .dead, .dead, .dead, .dead, .dead, .dead, .dead],
      [.live 9 0 [rcD r], .live 1 (76 + 32 * i) (bytesD (lenB ++ wordsB (rcW r) ++ wordsB ((r.ps.take i).flatMap psW)))]⟩) ?_ ?_ ?_ (by repeat (first | exact stab_S | exact stab_C | exact stab_I | exact stab_M | refine stab_B ?_)) ?_
    · refine At.cut 2 (by repeat (first | exact Subs.refl' _ | refine Subs.cons (Sub.refl _) ?_ | refine Subs.cons (Sub.toDead _) ?_)) ?_
      simp only [List.take_zero, List.flatMap_nil, wordsB_nil, List.append_nil, bytesD_append]
      rfl
    · intro i hi
      refine ⟨by simp, by simp [belows, below, belows_free, pss_free], by simp [Ent.below, belows, belows_free, bytesD_free, rc_free, below_free]⟩
    · intro i hi
      refine Z.T hmix ?_
      simp only [cast0, eq_self, not_bool, gP_T, gP_F, bne_self_eq_false, bne_iff_ne, bne_eq_false_iff_eq, Bool.false_eq_true, Bool.true_eq_false, false_implies, true_implies, implies_true, not_true_eq_false, not_false_eq_true, beq_self_eq_true, RegZ_nil, RegZ_op, RegZ_opg, RegZ_callF, RegZ_callFg, DrX_zero, DrX_op, DrX_opg, DrX_callF, DrX_callFg, Z_skip, Z_reg, Z_draw, Z_any, Z_seq, Z_cond, Z_block, Z_loop, Z_exit, Z_ret, pin, KO_ap, KZ_normal, KZ_exit, KZ_ret, KS_normal, KS_exit, KS_ret, KB_normal, KB_exit, KB_ret, KM_normal, KM_exit, KM_ret, KI_normal, KI_exit, KI_ret, andT_ite, map_ite, Option.bind_some, Int.reduceLT, Nat.mul_one, Int.toNat_natCast, Int.natCast_nonneg, EndT_normal, EndT_ret, EndT_exit, endX_some, tupD_one, tupD_two, tupD_nil, Nat.lt_add_one, Nat.zero_lt_succ, C.lps, C.isLoop, bsliceD, contents, true_and, and_true, and_self, Bool.or_false, Bool.false_or, Bool.or_true, Bool.true_or, Bool.or_self, gate, evalI, St.ev, St.put, andT_some, List.getD_cons_succ, List.getD_cons_zero, List.cons_append, List.nil_append, List.replicate,
  List.length_cons, List.length_nil, Nat.reduceSub, Nat.reduceAdd, List.set_cons_succ, List.set_cons_zero, List.map_cons, List.map_nil, Option.map_some, Option.map_none, ← binJ_eq, binJ, decide_true, cond_true, cond_false, if_true, if_false,
  decide_eq_true_eq, decide_eq_false_iff_not, lenOfD, Bool.true_and, Bool.and_true, ressD, resD, D.ok, D.cells, one, reduceCtorEq, Nat.reduceEqDiff, Nat.succ_ne_self, Bool.not_true, Bool.not_false, ← wrapF_eq, Int.reduceEq, decide_false, beq_iff_eq, beq_eq_false_iff_ne, ne_eq, natlt]
      refine gP.mk (fun hi' => ?_) (fun hi' => ?_)
      · simp only [cast0, eq_self, not_bool, gP_T, gP_F, bne_self_eq_false, bne_iff_ne, bne_eq_false_iff_eq, Bool.false_eq_true, Bool.true_eq_false, false_implies, true_implies, implies_true, not_true_eq_false, not_false_eq_true, beq_self_eq_true, RegZ_nil, RegZ_op, RegZ_opg, RegZ_callF, RegZ_callFg, DrX_zero, DrX_op, DrX_opg, DrX_callF, DrX_callFg, Z_skip, Z_reg, Z_draw, Z_any, Z_seq, Z_cond, Z_block, Z_loop, Z_exit, Z_ret, pin, KO_ap, KZ_normal, KZ_exit, KZ_ret, KS_normal, KS_exit, KS_ret, KB_normal, KB_exit, KB_ret, KM_normal, KM_exit, KM_ret, KI_normal, KI_exit, KI_ret, andT_ite, map_ite, Option.bind_some, Int.reduceLT, Nat.mul_one, Int.toNat_natCast, Int.natCast_nonneg, EndT_normal, EndT_ret, EndT_exit, endX_some, tupD_one, tupD_two, tupD_nil, Nat.lt_add_one, Nat.zero_lt_succ, C.lps, C.isLoop, bsliceD, contents, true_and, and_true, and_self, Bool.or_false, Bool.false_or, Bool.or_true, Bool.true_or, Bool.or_self, gate, evalI, St.ev, St.put, andT_some, List.getD_cons_succ, List.getD_cons_zero, List.cons_append, List.nil_append, List.replicate,
  List.length_cons, List.length_nil, Nat.reduceSub, Nat.reduceAdd, List.set_cons_succ, List.set_cons_zero, List.map_cons, List.map_nil, Option.map_some, Option.map_none, ← binJ_eq, binJ, decide_true, cond_true, cond_false, if_true, if_false,
  decide_eq_true_eq, decide_eq_false_iff_not, lenOfD, Bool.true_and, Bool.and_true, ressD, resD, D.ok, D.cells, one, reduceCtorEq, Nat.reduceEqDiff, Nat.succ_ne_self, Bool.not_true, Bool.not_false, ← wrapF_eq, Int.reduceEq, decide_false, beq_iff_eq, beq_eq_false_iff_ne, ne_eq, Tm.part, List.getElem?_cons_zero, List.getElem?_cons_succ, List.drop_succ_cons, List.drop_zero, List.take_succ_cons, List.take_zero, List.take_nil, List.drop_nil, Nat.zero_add, Nat.add_zero, List.length_map, Nat.le_refl, Nat.reduceLeDiff, Nat.reduceLT, Int.reduceLE, Int.reduceToNat, Nat.reducePow, Int.reducePow, ite_true, ite_false, D.upd, splice, List.append_nil, buildD, bound, sliceD, leaves, hi', pss_get hi']
        refine callX_eq (words23 _ 1 (76 + 32 * i) 3 _ (psW r.ps[i]) rfl rfl (by decide) (by simp [Ent.below, belows, below, belows_free, bytesD_free, below_free, rc_free]) (bytesD_free _) (by simp only [bytesD_len, List.length_append, wordsB_len, flat_take (Nat.le_of_lt hi'), hlB, psW, rcW, List.length_cons, List.length_nil]; omega)) ?_
        simp only [cast0, eq_self, not_bool, gP_T, gP_F, bne_self_eq_false, bne_iff_ne, bne_eq_false_iff_eq, Bool.false_eq_true, Bool.true_eq_false, false_implies, true_implies, implies_true, not_true_eq_false, not_false_eq_true, beq_self_eq_true, RegZ_nil, RegZ_op, RegZ_opg, RegZ_callF, RegZ_callFg, DrX_zero, DrX_op, DrX_opg, DrX_callF, DrX_callFg, Z_skip, Z_reg, Z_draw, Z_any, Z_seq, Z_cond, Z_block, Z_loop, Z_exit, Z_ret, pin, KO_ap, KZ_normal, KZ_exit, KZ_ret, KS_normal, KS_exit, KS_ret, KB_normal, KB_exit, KB_ret, KM_normal, KM_exit, KM_ret, KI_normal, KI_exit, KI_ret, andT_ite, map_ite, Option.bind_some, Int.reduceLT, Nat.mul_one, Int.toNat_natCast, Int.natCast_nonneg, EndT_normal, EndT_ret, EndT_exit, endX_some, tupD_one, tupD_two, tupD_nil, Nat.lt_add_one, Nat.zero_lt_succ, C.lps, C.isLoop, bsliceD, contents, true_and, and_true, and_self, Bool.or_false, Bool.false_or, Bool.or_true, Bool.true_or, Bool.or_self, gate, evalI, St.ev, St.put, andT_some, List.getD_cons_succ, List.getD_cons_zero, List.cons_append, List.nil_append, List.replicate,
  List.length_cons, List.length_nil, Nat.reduceSub, Nat.reduceAdd, List.set_cons_succ, List.set_cons_zero, List.map_cons, List.map_nil, Option.map_some, Option.map_none, ← binJ_eq, binJ, decide_true, cond_true, cond_false, if_true, if_false,
  decide_eq_true_eq, decide_eq_false_iff_not, lenOfD, Bool.true_and, Bool.and_true, ressD, resD, D.ok, D.cells, one, reduceCtorEq, Nat.reduceEqDiff, Nat.succ_ne_self, Bool.not_true, Bool.not_false, ← wrapF_eq, Int.reduceEq, decide_false, beq_iff_eq, beq_eq_false_iff_ne, ne_eq, Tm.part, List.getElem?_cons_zero, List.getElem?_cons_succ, List.drop_succ_cons, List.drop_zero, List.take_succ_cons, List.take_zero, List.take_nil, List.drop_nil, Nat.zero_add, Nat.add_zero, List.length_map, Nat.le_refl, Nat.reduceLeDiff, Nat.reduceLT, Int.reduceLE, Int.reduceToNat, Nat.reducePow, Int.reducePow, ite_true, ite_false, D.upd, splice, List.append_nil, buildD, bound, sliceD, leaves, wrapSu i (by omega), hi']
        refine At.cut 2 (by repeat (first | exact Subs.refl' _ | refine Subs.cons (Sub.refl _) ?_ | refine Subs.cons (Sub.toDead _) ?_)) ?_
        simp only [take_flat hi', bytesD_append, List.append_assoc]
        rfl
      · obtain rfl : i = r.ps.length := by omega
        exact ⟨rfl, At.same _ _ _ (by repeat (first | exact Subs.refl' _ | refine Subs.cons (Sub.refl _) ?_ | refine Subs.cons (Sub.toDead _) ?_))⟩
    · simp only [cast0, eq_self, not_bool, gP_T, gP_F, bne_self_eq_false, bne_iff_ne, bne_eq_false_iff_eq, Bool.false_eq_true, Bool.true_eq_false, false_implies, true_implies, implies_true, not_true_eq_false, not_false_eq_true, beq_self_eq_true, RegZ_nil, RegZ_op, RegZ_opg, RegZ_callF, RegZ_callFg, DrX_zero, DrX_op, DrX_opg, DrX_callF, DrX_callFg, Z_skip, Z_reg, Z_draw, Z_any, Z_seq, Z_cond, Z_block, Z_loop, Z_exit, Z_ret, pin, KO_ap, KZ_normal, KZ_exit, KZ_ret, KS_normal, KS_exit, KS_ret, KB_normal, KB_exit, KB_ret, KM_normal, KM_exit, KM_ret, KI_normal, KI_exit, KI_ret, andT_ite, map_ite, Option.bind_some, Int.reduceLT, Nat.mul_one, Int.toNat_natCast, Int.natCast_nonneg, EndT_normal, EndT_ret, EndT_exit, endX_some, tupD_one, tupD_two, tupD_nil, Nat.lt_add_one, Nat.zero_lt_succ, C.lps, C.isLoop, bsliceD, contents, true_and, and_true, and_self, Bool.or_false, Bool.false_or, Bool.or_true, Bool.true_or, Bool.or_self, gate, evalI, St.ev, St.put, andT_some, List.getD_cons_succ, List.getD_cons_zero, List.cons_append, List.nil_append, List.replicate,
  List.length_cons, List.length_nil, Nat.reduceSub, Nat.reduceAdd, List.set_cons_succ, List.set_cons_zero, List.map_cons, List.map_nil, Option.map_some, Option.map_none, ← binJ_eq, binJ, decide_true, cond_true, cond_false, if_true, if_false,
  decide_eq_true_eq, decide_eq_false_iff_not, lenOfD, Bool.true_and, Bool.and_true, ressD, resD, D.ok, D.cells, one, reduceCtorEq, Nat.reduceEqDiff, Nat.succ_ne_self, Bool.not_true, Bool.not_false, ← wrapF_eq, Int.reduceEq, decide_false, beq_iff_eq, beq_eq_false_iff_ne, ne_eq]
      refine Z.T hmix ?_
      simp only [cast0, eq_self, not_bool, gP_T, gP_F, bne_self_eq_false, bne_iff_ne, bne_eq_false_iff_eq, Bool.false_eq_true, Bool.true_eq_false, false_implies, true_implies, implies_true, not_true_eq_false, not_false_eq_true, beq_self_eq_true, RegZ_nil, RegZ_op, RegZ_opg, RegZ_callF, RegZ_callFg, DrX_zero, DrX_op, DrX_opg, DrX_callF, DrX_callFg, Z_skip, Z_reg, Z_draw, Z_any, Z_seq, Z_cond, Z_block, Z_loop, Z_exit, Z_ret, pin, KO_ap, KZ_normal, KZ_exit, KZ_ret, KS_normal, KS_exit, KS_ret, KB_normal, KB_exit, KB_ret, KM_normal, KM_exit, KM_ret, KI_normal, KI_exit, KI_ret, andT_ite, map_ite, Option.bind_some, Int.reduceLT, Nat.mul_one, Int.toNat_natCast, Int.natCast_nonneg, EndT_normal, EndT_ret, EndT_exit, endX_some, tupD_one, tupD_two, tupD_nil, Nat.lt_add_one, Nat.zero_lt_succ, C.lps, C.isLoop, bsliceD, contents, true_and, and_true, and_self, Bool.or_false, Bool.false_or, Bool.or_true, Bool.true_or, Bool.or_self, gate, evalI, St.ev, St.put, andT_some, List.getD_cons_succ, List.getD_cons_zero, List.cons_append, List.nil_append, List.replicate,
  List.length_cons, List.length_nil, Nat.reduceSub, Nat.reduceAdd, List.set_cons_succ, List.set_cons_zero, List.map_cons, List.map_nil, Option.map_some, Option.map_none, ← binJ_eq, binJ, decide_true, cond_true, cond_false, if_true, if_false,
  decide_eq_true_eq, decide_eq_false_iff_not, lenOfD, Bool.true_and, Bool.and_true, ressD, resD, D.ok, D.cells, one, reduceCtorEq, Nat.reduceEqDiff, Nat.succ_ne_self, Bool.not_true, Bool.not_false, ← wrapF_eq, Int.reduceEq, decide_false, beq_iff_eq, beq_eq_false_iff_ne, ne_eq, Tm.part, List.getElem?_cons_zero, List.getElem?_cons_succ, List.drop_succ_cons, List.drop_zero, List.take_succ_cons, List.take_zero, List.take_nil, List.drop_nil, Nat.zero_add, Nat.add_zero, List.length_map, Nat.le_refl, Nat.reduceLeDiff, Nat.reduceLT, Int.reduceLE, Int.reduceToNat, Nat.reducePow, Int.reducePow, ite_true, ite_false, D.upd, splice, List.append_nil, buildD, bound, sliceD, leaves, List.take_length, bytesD_len, List.length_append, wordsB_len, flat_len, hlB]
      have hrw : (rcW r).length = 9 := rfl
      rw [hrw]
      refine ⟨by omega, ?_⟩
      refine callX_eq (sumV _ 1 (76 + 32 * r.ps.length) 4 _ (lenB ++ wordsB (rcW r) ++ wordsB (r.ps.flatMap psW)) rfl (by simp only [List.length_append, wordsB_len, flat_len, hlB, hrw]; omega) (by omega)) ?_
      rw [show ((lenB ++ wordsB (rcW r) ++ wordsB (r.ps.flatMap psW)).drop 4).take (4 + 8 * 9 + 8 * (4 * r.ps.length) - 4) = payload r by
        rw [List.append_assoc, ← hlB, List.drop_left, List.take_of_length_le (by simp only [List.length_append, wordsB_len, flat_len, hlB, hrw]; omega)]; rfl]
      simp only [cast0, eq_self, not_bool, gP_T, gP_F, bne_self_eq_false, bne_iff_ne, bne_eq_false_iff_eq, Bool.false_eq_true, Bool.true_eq_false, false_implies, true_implies, implies_true, not_true_eq_false, not_false_eq_true, beq_self_eq_true, RegZ_nil, RegZ_op, RegZ_opg, RegZ_callF, RegZ_callFg, DrX_zero, DrX_op, DrX_opg, DrX_callF, DrX_callFg, Z_skip, Z_reg, Z_draw, Z_any, Z_seq, Z_cond, Z_block, Z_loop, Z_exit, Z_ret, pin, KO_ap, KZ_normal, KZ_exit, KZ_ret, KS_normal, KS_exit, KS_ret, KB_normal, KB_exit, KB_ret, KM_normal, KM_exit, KM_ret, KI_normal, KI_exit, KI_ret, andT_ite, map_ite, Option.bind_some, Int.reduceLT, Nat.mul_one, Int.toNat_natCast, Int.natCast_nonneg, EndT_normal, EndT_ret, EndT_exit, endX_some, tupD_one, tupD_two, tupD_nil, Nat.lt_add_one, Nat.zero_lt_succ, C.lps, C.isLoop, bsliceD, contents, true_and, and_true, and_self, Bool.or_false, Bool.false_or, Bool.or_true, Bool.true_or, Bool.or_self, gate, evalI, St.ev, St.put, andT_some, List.getD_cons_succ, List.getD_cons_zero, List.cons_append, List.nil_append, List.replicate,
  List.length_cons, List.length_nil, Nat.reduceSub, Nat.reduceAdd, List.set_cons_succ, List.set_cons_zero, List.map_cons, List.map_nil, Option.map_some, Option.map_none, ← binJ_eq, binJ, decide_true, cond_true, cond_false, if_true, if_false,
  decide_eq_true_eq, decide_eq_false_iff_not, lenOfD, Bool.true_and, Bool.and_true, ressD, resD, D.ok, D.cells, one, reduceCtorEq, Nat.reduceEqDiff, Nat.succ_ne_self, Bool.not_true, Bool.not_false, ← wrapF_eq, Int.reduceEq, decide_false, beq_iff_eq, beq_eq_false_iff_ne, ne_eq, Tm.part, List.getElem?_cons_zero, List.getElem?_cons_succ, List.drop_succ_cons, List.drop_zero, List.take_succ_cons, List.take_zero, List.take_nil, List.drop_nil, Nat.zero_add, Nat.add_zero, List.length_map, Nat.le_refl, Nat.reduceLeDiff, Nat.reduceLT, Int.reduceLE, Int.reduceToNat, Nat.reducePow, Int.reducePow, ite_true, ite_false, D.upd, splice, List.append_nil, buildD, bound, sliceD, leaves, i64]
      refine callX_eq (half22 _ 1 (76 + 32 * r.ps.length) _ _ rfl (by simp [Ent.below, belows, below, belows_free, bytesD_free, below_free, rc_free]) (bytesD_free _) (by simp only [bytesD_len, List.length_append, wordsB_len, flat_len, hlB, hrw]; omega)) ?_
      simp only [cast0, eq_self, not_bool, gP_T, gP_F, bne_self_eq_false, bne_iff_ne, bne_eq_false_iff_eq, Bool.false_eq_true, Bool.true_eq_false, false_implies, true_implies, implies_true, not_true_eq_false, not_false_eq_true, beq_self_eq_true, RegZ_nil, RegZ_op, RegZ_opg, RegZ_callF, RegZ_callFg, DrX_zero, DrX_op, DrX_opg, DrX_callF, DrX_callFg, Z_skip, Z_reg, Z_draw, Z_any, Z_seq, Z_cond, Z_block, Z_loop, Z_exit, Z_ret, pin, KO_ap, KZ_normal, KZ_exit, KZ_ret, KS_normal, KS_exit, KS_ret, KB_normal, KB_exit, KB_ret, KM_normal, KM_exit, KM_ret, KI_normal, KI_exit, KI_ret, andT_ite, map_ite, Option.bind_some, Int.reduceLT, Nat.mul_one, Int.toNat_natCast, Int.natCast_nonneg, EndT_normal, EndT_ret, EndT_exit, endX_some, tupD_one, tupD_two, tupD_nil, Nat.lt_add_one, Nat.zero_lt_succ, C.lps, C.isLoop, bsliceD, contents, true_and, and_true, and_self, Bool.or_false, Bool.false_or, Bool.or_true, Bool.true_or, Bool.or_self, gate, evalI, St.ev, St.put, andT_some, List.getD_cons_succ, List.getD_cons_zero, List.cons_append, List.nil_append, List.replicate,
  List.length_cons, List.length_nil, Nat.reduceSub, Nat.reduceAdd, List.set_cons_succ, List.set_cons_zero, List.map_cons, List.map_nil, Option.map_some, Option.map_none, ← binJ_eq, binJ, decide_true, cond_true, cond_false, if_true, if_false,
  decide_eq_true_eq, decide_eq_false_iff_not, lenOfD, Bool.true_and, Bool.and_true, ressD, resD, D.ok, D.cells, one, reduceCtorEq, Nat.reduceEqDiff, Nat.succ_ne_self, Bool.not_true, Bool.not_false, ← wrapF_eq, Int.reduceEq, decide_false, beq_iff_eq, beq_eq_false_iff_ne, ne_eq, Tm.part, List.getElem?_cons_zero, List.getElem?_cons_succ, List.drop_succ_cons, List.drop_zero, List.take_succ_cons, List.take_zero, List.take_nil, List.drop_nil, Nat.zero_add, Nat.add_zero, List.length_map, Nat.le_refl, Nat.reduceLeDiff, Nat.reduceLT, Int.reduceLE, Int.reduceToNat, Nat.reducePow, Int.reducePow, ite_true, ite_false, D.upd, splice, List.append_nil, buildD, bound, sliceD, leaves]
      have hc := (crcRef (payload r)).isLt
      rw [mod32 hc]
      rw [froz_tup]
      simp only [List.map_cons, List.map_nil]
      rw [froz_own rfl (idfreesA (bytesD_free _) (bytesD_free _)), froz_v]
      rw [encR, if_pos hk, encB, payload, ← hlenB, show ((72 + 32 * (r.ps.length : Int)) % 4294967296).toNat = 72 + 32 * r.ps.length by omega]
      simp only [bytesD_append, List.append_assoc, i64]
end Go.Proofs.Ytjbhgmeokoconaa
