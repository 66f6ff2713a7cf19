/-
  Numbers as bytes: what the appending functions make.
-/
import Derived.Test.YtjbhgmeokoconaaSum2
import Derived.Test.YtjbhgmeokoconaaTmW
set_option linter.unusedSimpArgs false
set_option linter.unusedVariables false
set_option maxHeartbeats 2000000
namespace Go.Proofs.Ytjbhgmeokoconaa
open Go.Tm
set_option maxRecDepth 10000

theorem hmix : Try.prog.follows .mixedOrders = true := Checked.mixed Try.checked

/-- The k lowest bytes of a number. -/
def bytesLE : Nat → Nat → List (BitVec 8)
  | 0, _ => []
  | k + 1, u => BitVec.ofNat 8 u :: bytesLE k (u / 256)

theorem bytesLE_succ : ∀ (k u : Nat), bytesLE (k + 1) u = bytesLE k u ++ [BitVec.ofNat 8 (u / 256 ^ k)]
  | 0, u => by simp [bytesLE]
  | k + 1, u => by
    rw [bytesLE, bytesLE_succ k, bytesLE, List.cons_append, Nat.div_div_eq_div_mul, Nat.pow_succ, Nat.mul_comm]

theorem bytesLE_len : ∀ (k u : Nat), (bytesLE k u).length = k
  | 0, _ => rfl
  | k + 1, u => by simp [bytesLE, bytesLE_len k]

theorem bytesD_append (a b : List (BitVec 8)) : bytesD (a ++ b) = bytesD a ++ bytesD b := by simp [bytesD]

theorem sh8 : (2 ^ min (Int.toNat 8) IntKind.u32.bits : Nat) = 256 := rfl
theorem sh8' : (2 ^ min (Int.toNat 8) IntKind.u64.bits : Nat) = 256 := rfl

theorem half22 (m : List Ent) (id v : Nat) (L : List D) (n : Int) (hid : m[id]? = some (.live 1 v L)) (hb : m.all (Ent.below m.length) = true) (hL : idfrees L = true) (hl : L.length + 4 ≤ 2 ^ 47) :
    CallT Try.prog 22 [.own id v, i64 n] m fun d m' => d = .own id (v + 4) ∧ m' = m.set id (.live 1 (v + 4) (L ++ bytesD (bytesLE 4 (n % 2 ^ 32).toNat))) := by
  have hlt : id < m.length := (List.getElem?_eq_some_iff.1 hid).1
  simp only [i64]
  refine callT_of k22_ok k22_name (Z.T hmix ?_)
  simp only [k22, k22c, cast0, eq_self, not_bool, gP_T, gP_F, bne_self_eq_false, bne_iff_ne, bne_eq_false_iff_eq, Bool.false_eq_true, Bool.true_eq_false, false_implies, true_implies, implies_true, not_true_eq_false, not_false_eq_true, beq_self_eq_true, RegZ_nil, RegZ_op, RegZ_opg, RegZ_callF, RegZ_callFg, DrX_zero, DrX_op, DrX_opg, DrX_callF, DrX_callFg, Z_skip, Z_reg, Z_draw, Z_any, Z_seq, Z_cond, Z_block, Z_loop, Z_exit, Z_ret, pin, KO_ap, KZ_normal, KZ_exit, KZ_ret, KS_normal, KS_exit, KS_ret, KB_normal, KB_exit, KB_ret, KM_normal, KM_exit, KM_ret, KI_normal, KI_exit, KI_ret, andT_ite, map_ite, Option.bind_some, Int.reduceLT, Nat.mul_one, Int.toNat_natCast, Int.natCast_nonneg, EndT_normal, EndT_ret, EndT_exit, endX_some, tupD_one, tupD_two, tupD_nil, Nat.lt_add_one, Nat.zero_lt_succ, C.lps, C.isLoop, bsliceD, contents, true_and, and_true, and_self, Bool.or_false, Bool.false_or, Bool.or_true, Bool.true_or, Bool.or_self, gate, evalI, St.ev, St.put, andT_some, List.getD_cons_succ, List.getD_cons_zero, List.cons_append, List.nil_append, List.replicate,
  List.length_cons, List.length_nil, Nat.reduceSub, Nat.reduceAdd, List.set_cons_succ, List.set_cons_zero, List.map_cons, List.map_nil, Option.map_some, Option.map_none, ← binJ_eq, binJ, decide_true, cond_true, cond_false, if_true, if_false,
  decide_eq_true_eq, decide_eq_false_iff_not, lenOfD, Bool.true_and, Bool.and_true, ressD, resD, D.ok, D.cells, one, reduceCtorEq, Nat.reduceEqDiff, Nat.succ_ne_self, Bool.not_true, Bool.not_false, ← wrapF_eq, Int.reduceEq, decide_false, beq_iff_eq, beq_eq_false_iff_ne, ne_eq]
  obtain ⟨u, hu⟩ : ∃ u : Nat, (n % 2 ^ 32).toNat = u := ⟨_, rfl⟩
  have hw : wrapF .u32 n = (u : Int) := by simp only [wrapF]; omega
  rw [hu, hw]
  refine T.blkI 4 (fun i => ⟨[.own id (v + i), .dead, .dead, .dead, .dead, .v (.int .u32 (u / 256 ^ i : Nat)), .dead, .dead, .v (.int .i64 i), .dead, .dead, .dead, .dead, .dead, .dead, .dead, .dead, .dead, .dead], m.set id (.live 1 (v + i) (L ++ bytesD (bytesLE i u)))⟩) ?_ ?_ ?_ (by repeat (first | exact stab_S | exact stab_C | exact stab_I | exact stab_M | refine stab_B ?_)) ?_
  · refine ⟨by simp only [Nat.pow_zero, Nat.div_one]; repeat (first | exact Subs.refl' _ | refine Subs.cons (Sub.refl _) ?_ | refine Subs.cons (Sub.toDead _) ?_), [], ?_⟩
    simp only [bytesLE, bytesD, List.map_nil, List.append_nil, Nat.add_zero, setq_same hid]
  · intro i hi
    refine ⟨by simp, by simp [belows, below, hlt], ?_⟩
    simp only [List.length_set]
    exact all_set hb (belowsA (belows_free _ _ hL) (belows_free _ _ (bytesD_free _)))
  · intro i hi
    refine Z.T hmix ?_
    simp only [cast0, eq_self, not_bool, gP_T, gP_F, bne_self_eq_false, bne_iff_ne, bne_eq_false_iff_eq, Bool.false_eq_true, Bool.true_eq_false, false_implies, true_implies, implies_true, not_true_eq_false, not_false_eq_true, beq_self_eq_true, RegZ_nil, RegZ_op, RegZ_opg, RegZ_callF, RegZ_callFg, DrX_zero, DrX_op, DrX_opg, DrX_callF, DrX_callFg, Z_skip, Z_reg, Z_draw, Z_any, Z_seq, Z_cond, Z_block, Z_loop, Z_exit, Z_ret, pin, KO_ap, KZ_normal, KZ_exit, KZ_ret, KS_normal, KS_exit, KS_ret, KB_normal, KB_exit, KB_ret, KM_normal, KM_exit, KM_ret, KI_normal, KI_exit, KI_ret, andT_ite, map_ite, Option.bind_some, Int.reduceLT, Nat.mul_one, Int.toNat_natCast, Int.natCast_nonneg, EndT_normal, EndT_ret, EndT_exit, endX_some, tupD_one, tupD_two, tupD_nil, Nat.lt_add_one, Nat.zero_lt_succ, C.lps, C.isLoop, bsliceD, contents, true_and, and_true, and_self, Bool.or_false, Bool.false_or, Bool.or_true, Bool.true_or, Bool.or_self, gate, evalI, St.ev, St.put, andT_some, List.getD_cons_succ, List.getD_cons_zero, List.cons_append, List.nil_append, List.replicate,
  List.length_cons, List.length_nil, Nat.reduceSub, Nat.reduceAdd, List.set_cons_succ, List.set_cons_zero, List.map_cons, List.map_nil, Option.map_some, Option.map_none, ← binJ_eq, binJ, decide_true, cond_true, cond_false, if_true, if_false,
  decide_eq_true_eq, decide_eq_false_iff_not, lenOfD, Bool.true_and, Bool.and_true, ressD, resD, D.ok, D.cells, one, reduceCtorEq, Nat.reduceEqDiff, Nat.succ_ne_self, Bool.not_true, Bool.not_false, ← wrapF_eq, Int.reduceEq, decide_false, beq_iff_eq, beq_eq_false_iff_ne, ne_eq, getq_last, getq_left, setq_left, setq_last, getq_set, getq_ne, setq_self, List.length_set, List.length_append, hid, hlt, wrapSu i (by omega), wrapU8, sh8, fdivN, Nat.div_div_eq_div_mul]
    refine gP.mk (fun h => ⟨?_, by omega, ?_⟩) (fun h => ?_)
    · simp [bytesD_len, bytesLE_len]; omega
    · simp only [bytesLE_succ, bytesD_append, ← List.append_assoc, Nat.pow_succ]
      exact At.mk _ _ _ _ (by repeat (first | exact Subs.refl' _ | refine Subs.cons (Sub.refl _) ?_ | refine Subs.cons (Sub.toDead _) ?_))
    · obtain rfl : i = 4 := by omega
      exact ⟨rfl, At.same _ _ _ (by repeat (first | exact Subs.refl' _ | refine Subs.cons (Sub.refl _) ?_ | refine Subs.cons (Sub.toDead _) ?_))⟩
  · simp only [cast0, eq_self, not_bool, gP_T, gP_F, bne_self_eq_false, bne_iff_ne, bne_eq_false_iff_eq, Bool.false_eq_true, Bool.true_eq_false, false_implies, true_implies, implies_true, not_true_eq_false, not_false_eq_true, beq_self_eq_true, RegZ_nil, RegZ_op, RegZ_opg, RegZ_callF, RegZ_callFg, DrX_zero, DrX_op, DrX_opg, DrX_callF, DrX_callFg, Z_skip, Z_reg, Z_draw, Z_any, Z_seq, Z_cond, Z_block, Z_loop, Z_exit, Z_ret, pin, KO_ap, KZ_normal, KZ_exit, KZ_ret, KS_normal, KS_exit, KS_ret, KB_normal, KB_exit, KB_ret, KM_normal, KM_exit, KM_ret, KI_normal, KI_exit, KI_ret, andT_ite, map_ite, Option.bind_some, Int.reduceLT, Nat.mul_one, Int.toNat_natCast, Int.natCast_nonneg, EndT_normal, EndT_ret, EndT_exit, endX_some, tupD_one, tupD_two, tupD_nil, Nat.lt_add_one, Nat.zero_lt_succ, C.lps, C.isLoop, bsliceD, contents, true_and, and_true, and_self, Bool.or_false, Bool.false_or, Bool.or_true, Bool.true_or, Bool.or_self, gate, evalI, St.ev, St.put, andT_some, List.getD_cons_succ, List.getD_cons_zero, List.cons_append, List.nil_append, List.replicate,
  List.length_cons, List.length_nil, Nat.reduceSub, Nat.reduceAdd, List.set_cons_succ, List.set_cons_zero, List.map_cons, List.map_nil, Option.map_some, Option.map_none, ← binJ_eq, binJ, decide_true, cond_true, cond_false, if_true, if_false,
  decide_eq_true_eq, decide_eq_false_iff_not, lenOfD, Bool.true_and, Bool.and_true, ressD, resD, D.ok, D.cells, one, reduceCtorEq, Nat.reduceEqDiff, Nat.succ_ne_self, Bool.not_true, Bool.not_false, ← wrapF_eq, Int.reduceEq, decide_false, beq_iff_eq, beq_eq_false_iff_ne, ne_eq]
    refine Z.T hmix ?_
    simp only [cast0, eq_self, not_bool, gP_T, gP_F, bne_self_eq_false, bne_iff_ne, bne_eq_false_iff_eq, Bool.false_eq_true, Bool.true_eq_false, false_implies, true_implies, implies_true, not_true_eq_false, not_false_eq_true, beq_self_eq_true, RegZ_nil, RegZ_op, RegZ_opg, RegZ_callF, RegZ_callFg, DrX_zero, DrX_op, DrX_opg, DrX_callF, DrX_callFg, Z_skip, Z_reg, Z_draw, Z_any, Z_seq, Z_cond, Z_block, Z_loop, Z_exit, Z_ret, pin, KO_ap, KZ_normal, KZ_exit, KZ_ret, KS_normal, KS_exit, KS_ret, KB_normal, KB_exit, KB_ret, KM_normal, KM_exit, KM_ret, KI_normal, KI_exit, KI_ret, andT_ite, map_ite, Option.bind_some, Int.reduceLT, Nat.mul_one, Int.toNat_natCast, Int.natCast_nonneg, EndT_normal, EndT_ret, EndT_exit, endX_some, tupD_one, tupD_two, tupD_nil, Nat.lt_add_one, Nat.zero_lt_succ, C.lps, C.isLoop, bsliceD, contents, true_and, and_true, and_self, Bool.or_false, Bool.false_or, Bool.or_true, Bool.true_or, Bool.or_self, gate, evalI, St.ev, St.put, andT_some, List.getD_cons_succ, List.getD_cons_zero, List.cons_append, List.nil_append, List.replicate,
  List.length_cons, List.length_nil, Nat.reduceSub, Nat.reduceAdd, List.set_cons_succ, List.set_cons_zero, List.map_cons, List.map_nil, Option.map_some, Option.map_none, ← binJ_eq, binJ, decide_true, cond_true, cond_false, if_true, if_false,
  decide_eq_true_eq, decide_eq_false_iff_not, lenOfD, Bool.true_and, Bool.and_true, ressD, resD, D.ok, D.cells, one, reduceCtorEq, Nat.reduceEqDiff, Nat.succ_ne_self, Bool.not_true, Bool.not_false, ← wrapF_eq, Int.reduceEq, decide_false, beq_iff_eq, beq_eq_false_iff_ne, ne_eq]

def i64s (W : List Int) : List D := W.map i64
theorem i64s_len (W : List Int) : (i64s W).length = W.length := by simp [i64s]
theorem i64s_free : ∀ W : List Int, idfrees (i64s W) = true
  | [] => rfl
  | n :: W => by simp [i64s, idfrees, idfree, i64]; exact i64s_free W
theorem i64s_get {W : List Int} {i : Nat} (h : i < W.length) : (i64s W)[i]? = some (.v (.int .i64 W[i])) := by simp [i64s, h, i64]

/-- The bytes of words of eight bytes each. -/
def wordsB (W : List Int) : List (BitVec 8) := W.flatMap fun n => bytesLE 8 (n % 2 ^ 64).toNat

theorem wordsB_len : ∀ W : List Int, (wordsB W).length = 8 * W.length
  | [] => rfl
  | n :: W => by
    have h := wordsB_len W
    simp only [wordsB, List.flatMap_cons, List.length_append, bytesLE_len, List.length_cons] at h ⊢
    omega

theorem wordsB_take {W : List Int} {i : Nat} (h : i < W.length) : wordsB (W.take (i + 1)) = wordsB (W.take i) ++ bytesLE 8 (W[i] % 2 ^ 64).toNat := by
  rw [List.take_succ_eq_append_getElem h]; simp only [wordsB, List.flatMap_append, List.flatMap_cons, List.flatMap_nil, List.append_nil]

theorem words23 (m : List Ent) (id v wid : Nat) (L : List D) (W : List Int) (hid : m[id]? = some (.live 1 v L)) (hwid : m[wid]? = some (.live 1 0 (i64s W))) (hne : id ≠ wid) (hb : m.all (Ent.below m.length) = true) (hL : idfrees L = true) (hl : L.length + 8 * W.length ≤ 2 ^ 47) :
    CallT Try.prog 23 [.own id v, .own wid 0] m fun d m' => d = .own id (v + 8 * W.length) ∧ m' = m.set id (.live 1 (v + 8 * W.length) (L ++ bytesD (wordsB W))) := by
  have hlt : id < m.length := (List.getElem?_eq_some_iff.1 hid).1
  have hwlt : wid < m.length := (List.getElem?_eq_some_iff.1 hwid).1
  refine callT_of k23_ok k23_name (Z.T hmix ?_)
  simp only [k23, k23c, cast0, eq_self, not_bool, gP_T, gP_F, bne_self_eq_false, bne_iff_ne, bne_eq_false_iff_eq, Bool.false_eq_true, Bool.true_eq_false, false_implies, true_implies, implies_true, not_true_eq_false, not_false_eq_true, beq_self_eq_true, RegZ_nil, RegZ_op, RegZ_opg, RegZ_callF, RegZ_callFg, DrX_zero, DrX_op, DrX_opg, DrX_callF, DrX_callFg, Z_skip, Z_reg, Z_draw, Z_any, Z_seq, Z_cond, Z_block, Z_loop, Z_exit, Z_ret, pin, KO_ap, KZ_normal, KZ_exit, KZ_ret, KS_normal, KS_exit, KS_ret, KB_normal, KB_exit, KB_ret, KM_normal, KM_exit, KM_ret, KI_normal, KI_exit, KI_ret, andT_ite, map_ite, Option.bind_some, Int.reduceLT, Nat.mul_one, Int.toNat_natCast, Int.natCast_nonneg, EndT_normal, EndT_ret, EndT_exit, endX_some, tupD_one, tupD_two, tupD_nil, Nat.lt_add_one, Nat.zero_lt_succ, C.lps, C.isLoop, bsliceD, contents, true_and, and_true, and_self, Bool.or_false, Bool.false_or, Bool.or_true, Bool.true_or, Bool.or_self, gate, evalI, St.ev, St.put, andT_some, List.getD_cons_succ, List.getD_cons_zero, List.cons_append, List.nil_append, List.replicate,
  List.length_cons, List.length_nil, Nat.reduceSub, Nat.reduceAdd, List.set_cons_succ, List.set_cons_zero, List.map_cons, List.map_nil, Option.map_some, Option.map_none, ← binJ_eq, binJ, decide_true, cond_true, cond_false, if_true, if_false,
  decide_eq_true_eq, decide_eq_false_iff_not, lenOfD, Bool.true_and, Bool.and_true, ressD, resD, D.ok, D.cells, one, reduceCtorEq, Nat.reduceEqDiff, Nat.succ_ne_self, Bool.not_true, Bool.not_false, ← wrapF_eq, Int.reduceEq, decide_false, beq_iff_eq, beq_eq_false_iff_ne, ne_eq]
  simp only [hwid, cast0, eq_self, not_bool, gP_T, gP_F, bne_self_eq_false, bne_iff_ne, bne_eq_false_iff_eq, Bool.false_eq_true, Bool.true_eq_false, false_implies, true_implies, implies_true, not_true_eq_false, not_false_eq_true, beq_self_eq_true, RegZ_nil, RegZ_op, RegZ_opg, RegZ_callF, RegZ_callFg, DrX_zero, DrX_op, DrX_opg, DrX_callF, DrX_callFg, Z_skip, Z_reg, Z_draw, Z_any, Z_seq, Z_cond, Z_block, Z_loop, Z_exit, Z_ret, pin, KO_ap, KZ_normal, KZ_exit, KZ_ret, KS_normal, KS_exit, KS_ret, KB_normal, KB_exit, KB_ret, KM_normal, KM_exit, KM_ret, KI_normal, KI_exit, KI_ret, andT_ite, map_ite, Option.bind_some, Int.reduceLT, Nat.mul_one, Int.toNat_natCast, Int.natCast_nonneg, EndT_normal, EndT_ret, EndT_exit, endX_some, tupD_one, tupD_two, tupD_nil, Nat.lt_add_one, Nat.zero_lt_succ, C.lps, C.isLoop, bsliceD, contents, true_and, and_true, and_self, Bool.or_false, Bool.false_or, Bool.or_true, Bool.true_or, Bool.or_self, gate, evalI, St.ev, St.put, andT_some, List.getD_cons_succ, List.getD_cons_zero, List.cons_append, List.nil_append, List.replicate,
  List.length_cons, List.length_nil, Nat.reduceSub, Nat.reduceAdd, List.set_cons_succ, List.set_cons_zero, List.map_cons, List.map_nil, Option.map_some, Option.map_none, ← binJ_eq, binJ, decide_true, cond_true, cond_false, if_true, if_false,
  decide_eq_true_eq, decide_eq_false_iff_not, lenOfD, Bool.true_and, Bool.and_true, ressD, resD, D.ok, D.cells, one, reduceCtorEq, Nat.reduceEqDiff, Nat.succ_ne_self, Bool.not_true, Bool.not_false, ← wrapF_eq, Int.reduceEq, decide_false, beq_iff_eq, beq_eq_false_iff_ne, ne_eq, i64s_len]
  refine T.blkI W.length (fun i => ⟨[.own id (v + 8 * i), .dead, .dead, .dead, .dead, .dead, .dead, .dead, .own wid 0, .v (.int .i64 W.length), .v (.int .i64 i), .dead, .dead, .dead, .dead, .dead, .dead, .dead, .dead, .dead, .dead, .dead, .dead, .dead, .dead, .dead, .dead, .dead], m.set id (.live 1 (v + 8 * i) (L ++ bytesD (wordsB (W.take i))))⟩) ?_ ?_ ?_ (by repeat (first | exact stab_S | exact stab_C | exact stab_I | exact stab_M | refine stab_B ?_)) ?_
  · refine ⟨by repeat (first | exact Subs.refl' _ | refine Subs.cons (Sub.refl _) ?_ | refine Subs.cons (Sub.toDead _) ?_), [], ?_⟩
    simp only [wordsB, bytesD, List.take_zero, List.flatMap_nil, List.map_nil, List.append_nil, Nat.mul_zero, Nat.add_zero, setq_same hid]
  · intro i hi
    refine ⟨by simp, by simp [belows, below, hlt, hwlt], ?_⟩
    simp only [List.length_set]
    exact all_set hb (belowsA (belows_free _ _ hL) (belows_free _ _ (bytesD_free _)))
  · intro i hi
    refine Z.T hmix ?_
    simp only [cast0, eq_self, not_bool, gP_T, gP_F, bne_self_eq_false, bne_iff_ne, bne_eq_false_iff_eq, Bool.false_eq_true, Bool.true_eq_false, false_implies, true_implies, implies_true, not_true_eq_false, not_false_eq_true, beq_self_eq_true, RegZ_nil, RegZ_op, RegZ_opg, RegZ_callF, RegZ_callFg, DrX_zero, DrX_op, DrX_opg, DrX_callF, DrX_callFg, Z_skip, Z_reg, Z_draw, Z_any, Z_seq, Z_cond, Z_block, Z_loop, Z_exit, Z_ret, pin, KO_ap, KZ_normal, KZ_exit, KZ_ret, KS_normal, KS_exit, KS_ret, KB_normal, KB_exit, KB_ret, KM_normal, KM_exit, KM_ret, KI_normal, KI_exit, KI_ret, andT_ite, map_ite, Option.bind_some, Int.reduceLT, Nat.mul_one, Int.toNat_natCast, Int.natCast_nonneg, EndT_normal, EndT_ret, EndT_exit, endX_some, tupD_one, tupD_two, tupD_nil, Nat.lt_add_one, Nat.zero_lt_succ, C.lps, C.isLoop, bsliceD, contents, true_and, and_true, and_self, Bool.or_false, Bool.false_or, Bool.or_true, Bool.true_or, Bool.or_self, gate, evalI, St.ev, St.put, andT_some, List.getD_cons_succ, List.getD_cons_zero, List.cons_append, List.nil_append, List.replicate,
  List.length_cons, List.length_nil, Nat.reduceSub, Nat.reduceAdd, List.set_cons_succ, List.set_cons_zero, List.map_cons, List.map_nil, Option.map_some, Option.map_none, ← binJ_eq, binJ, decide_true, cond_true, cond_false, if_true, if_false,
  decide_eq_true_eq, decide_eq_false_iff_not, lenOfD, Bool.true_and, Bool.and_true, ressD, resD, D.ok, D.cells, one, reduceCtorEq, Nat.reduceEqDiff, Nat.succ_ne_self, Bool.not_true, Bool.not_false, ← wrapF_eq, Int.reduceEq, decide_false, beq_iff_eq, beq_eq_false_iff_ne, ne_eq, getq_last, getq_left, setq_left, setq_last, getq_set, getq_ne, setq_self, List.length_set, List.length_append, natlt]
    refine gP.mk (fun h => ?_) (fun h => ?_)
    · simp only [getq_ne hne, hwid, cast0, eq_self, not_bool, gP_T, gP_F, bne_self_eq_false, bne_iff_ne, bne_eq_false_iff_eq, Bool.false_eq_true, Bool.true_eq_false, false_implies, true_implies, implies_true, not_true_eq_false, not_false_eq_true, beq_self_eq_true, RegZ_nil, RegZ_op, RegZ_opg, RegZ_callF, RegZ_callFg, DrX_zero, DrX_op, DrX_opg, DrX_callF, DrX_callFg, Z_skip, Z_reg, Z_draw, Z_any, Z_seq, Z_cond, Z_block, Z_loop, Z_exit, Z_ret, pin, KO_ap, KZ_normal, KZ_exit, KZ_ret, KS_normal, KS_exit, KS_ret, KB_normal, KB_exit, KB_ret, KM_normal, KM_exit, KM_ret, KI_normal, KI_exit, KI_ret, andT_ite, map_ite, Option.bind_some, Int.reduceLT, Nat.mul_one, Int.toNat_natCast, Int.natCast_nonneg, EndT_normal, EndT_ret, EndT_exit, endX_some, tupD_one, tupD_two, tupD_nil, Nat.lt_add_one, Nat.zero_lt_succ, C.lps, C.isLoop, bsliceD, contents, true_and, and_true, and_self, Bool.or_false, Bool.false_or, Bool.or_true, Bool.true_or, Bool.or_self, gate, evalI, St.ev, St.put, andT_some, List.getD_cons_succ, List.getD_cons_zero, List.cons_append, List.nil_append, List.replicate,
  List.length_cons, List.length_nil, Nat.reduceSub, Nat.reduceAdd, List.set_cons_succ, List.set_cons_zero, List.map_cons, List.map_nil, Option.map_some, Option.map_none, ← binJ_eq, binJ, decide_true, cond_true, cond_false, if_true, if_false,
  decide_eq_true_eq, decide_eq_false_iff_not, lenOfD, Bool.true_and, Bool.and_true, ressD, resD, D.ok, D.cells, one, reduceCtorEq, Nat.reduceEqDiff, Nat.succ_ne_self, Bool.not_true, Bool.not_false, ← wrapF_eq, Int.reduceEq, decide_false, beq_iff_eq, beq_eq_false_iff_ne, ne_eq, getq_last, getq_left, setq_left, setq_last, getq_set, getq_ne, setq_self, List.length_set, List.length_append, hwlt, i64s_len, h, i64s_get h]
      simp only [cast0, eq_self, not_bool, gP_T, gP_F, bne_self_eq_false, bne_iff_ne, bne_eq_false_iff_eq, Bool.false_eq_true, Bool.true_eq_false, false_implies, true_implies, implies_true, not_true_eq_false, not_false_eq_true, beq_self_eq_true, RegZ_nil, RegZ_op, RegZ_opg, RegZ_callF, RegZ_callFg, DrX_zero, DrX_op, DrX_opg, DrX_callF, DrX_callFg, Z_skip, Z_reg, Z_draw, Z_any, Z_seq, Z_cond, Z_block, Z_loop, Z_exit, Z_ret, pin, KO_ap, KZ_normal, KZ_exit, KZ_ret, KS_normal, KS_exit, KS_ret, KB_normal, KB_exit, KB_ret, KM_normal, KM_exit, KM_ret, KI_normal, KI_exit, KI_ret, andT_ite, map_ite, Option.bind_some, Int.reduceLT, Nat.mul_one, Int.toNat_natCast, Int.natCast_nonneg, EndT_normal, EndT_ret, EndT_exit, endX_some, tupD_one, tupD_two, tupD_nil, Nat.lt_add_one, Nat.zero_lt_succ, C.lps, C.isLoop, bsliceD, contents, true_and, and_true, and_self, Bool.or_false, Bool.false_or, Bool.or_true, Bool.true_or, Bool.or_self, gate, evalI, St.ev, St.put, andT_some, List.getD_cons_succ, List.getD_cons_zero, List.cons_append, List.nil_append, List.replicate,
  List.length_cons, List.length_nil, Nat.reduceSub, Nat.reduceAdd, List.set_cons_succ, List.set_cons_zero, List.map_cons, List.map_nil, Option.map_some, Option.map_none, ← binJ_eq, binJ, decide_true, cond_true, cond_false, if_true, if_false,
  decide_eq_true_eq, decide_eq_false_iff_not, lenOfD, Bool.true_and, Bool.and_true, ressD, resD, D.ok, D.cells, one, reduceCtorEq, Nat.reduceEqDiff, Nat.succ_ne_self, Bool.not_true, Bool.not_false, ← wrapF_eq, Int.reduceEq, decide_false, beq_iff_eq, beq_eq_false_iff_ne, ne_eq, Tm.part, List.getElem?_cons_zero]
      obtain ⟨u, hu⟩ : ∃ u : Nat, (W[i] % 2 ^ 64).toNat = u := ⟨_, rfl⟩
      have hw : wrapF .u64 W[i] = (u : Int) := by simp only [wrapF]; omega
      rw [hw]
      have hu64 : u < 2 ^ 64 := by omega
      refine T.blkI 8 (fun j => ⟨[.own id (v + 8 * i + j), .dead, .dead, .dead, .dead, .dead, .dead, .v (.int .u64 (u / 256 ^ j : Nat)), .own wid 0, .v (.int .i64 W.length), .v (.int .i64 i), .dead, .dead, .dead, .dead, .dead, .v (.int .i64 j), .dead, .dead, .dead, .dead, .dead, .dead, .dead, .dead, .dead, .dead, .dead], m.set id (.live 1 (v + 8 * i + j) (L ++ bytesD (wordsB (W.take i)) ++ bytesD (bytesLE j u)))⟩) ?_ ?_ ?_ (by repeat (first | exact stab_S | exact stab_C | exact stab_I | exact stab_M | refine stab_B ?_)) ?_
      · refine ⟨by simp only [Nat.pow_zero, Nat.div_one]; repeat (first | exact Subs.refl' _ | refine Subs.cons (Sub.refl _) ?_ | refine Subs.cons (Sub.toDead _) ?_), [], ?_⟩
        simp only [bytesLE, bytesD, List.map_nil, List.append_nil, Nat.add_zero]
      · intro i hi
        refine ⟨by simp, by simp [belows, below, hlt, hwlt], ?_⟩
        simp only [List.length_set]
        exact all_set hb (belowsA (belowsA (belows_free _ _ hL) (belows_free _ _ (bytesD_free _))) (belows_free _ _ (bytesD_free _)))
      · intro j hj
        refine Z.T hmix ?_
        simp only [cast0, eq_self, not_bool, gP_T, gP_F, bne_self_eq_false, bne_iff_ne, bne_eq_false_iff_eq, Bool.false_eq_true, Bool.true_eq_false, false_implies, true_implies, implies_true, not_true_eq_false, not_false_eq_true, beq_self_eq_true, RegZ_nil, RegZ_op, RegZ_opg, RegZ_callF, RegZ_callFg, DrX_zero, DrX_op, DrX_opg, DrX_callF, DrX_callFg, Z_skip, Z_reg, Z_draw, Z_any, Z_seq, Z_cond, Z_block, Z_loop, Z_exit, Z_ret, pin, KO_ap, KZ_normal, KZ_exit, KZ_ret, KS_normal, KS_exit, KS_ret, KB_normal, KB_exit, KB_ret, KM_normal, KM_exit, KM_ret, KI_normal, KI_exit, KI_ret, andT_ite, map_ite, Option.bind_some, Int.reduceLT, Nat.mul_one, Int.toNat_natCast, Int.natCast_nonneg, EndT_normal, EndT_ret, EndT_exit, endX_some, tupD_one, tupD_two, tupD_nil, Nat.lt_add_one, Nat.zero_lt_succ, C.lps, C.isLoop, bsliceD, contents, true_and, and_true, and_self, Bool.or_false, Bool.false_or, Bool.or_true, Bool.true_or, Bool.or_self, gate, evalI, St.ev, St.put, andT_some, List.getD_cons_succ, List.getD_cons_zero, List.cons_append, List.nil_append, List.replicate,
  List.length_cons, List.length_nil, Nat.reduceSub, Nat.reduceAdd, List.set_cons_succ, List.set_cons_zero, List.map_cons, List.map_nil, Option.map_some, Option.map_none, ← binJ_eq, binJ, decide_true, cond_true, cond_false, if_true, if_false,
  decide_eq_true_eq, decide_eq_false_iff_not, lenOfD, Bool.true_and, Bool.and_true, ressD, resD, D.ok, D.cells, one, reduceCtorEq, Nat.reduceEqDiff, Nat.succ_ne_self, Bool.not_true, Bool.not_false, ← wrapF_eq, Int.reduceEq, decide_false, beq_iff_eq, beq_eq_false_iff_ne, ne_eq, getq_last, getq_left, setq_left, setq_last, getq_set, getq_ne, setq_self, List.length_set, List.length_append, hid, hlt, wrapSu j (by omega), wrapU8, sh8', fdivN, Nat.div_div_eq_div_mul]
        refine gP.mk (fun h => ⟨?_, by omega, ?_⟩) (fun h => ?_)
        · simp [bytesD_len, bytesLE_len, wordsB_len]; omega
        · simp only [bytesLE_succ, bytesD_append, ← List.append_assoc, Nat.pow_succ]
          exact At.mk _ _ _ _ (by repeat (first | exact Subs.refl' _ | refine Subs.cons (Sub.refl _) ?_ | refine Subs.cons (Sub.toDead _) ?_))
        · obtain rfl : j = 8 := by omega
          exact ⟨rfl, At.same _ _ _ (by repeat (first | exact Subs.refl' _ | refine Subs.cons (Sub.refl _) ?_ | refine Subs.cons (Sub.toDead _) ?_))⟩
      · simp only [cast0, eq_self, not_bool, gP_T, gP_F, bne_self_eq_false, bne_iff_ne, bne_eq_false_iff_eq, Bool.false_eq_true, Bool.true_eq_false, false_implies, true_implies, implies_true, not_true_eq_false, not_false_eq_true, beq_self_eq_true, RegZ_nil, RegZ_op, RegZ_opg, RegZ_callF, RegZ_callFg, DrX_zero, DrX_op, DrX_opg, DrX_callF, DrX_callFg, Z_skip, Z_reg, Z_draw, Z_any, Z_seq, Z_cond, Z_block, Z_loop, Z_exit, Z_ret, pin, KO_ap, KZ_normal, KZ_exit, KZ_ret, KS_normal, KS_exit, KS_ret, KB_normal, KB_exit, KB_ret, KM_normal, KM_exit, KM_ret, KI_normal, KI_exit, KI_ret, andT_ite, map_ite, Option.bind_some, Int.reduceLT, Nat.mul_one, Int.toNat_natCast, Int.natCast_nonneg, EndT_normal, EndT_ret, EndT_exit, endX_some, tupD_one, tupD_two, tupD_nil, Nat.lt_add_one, Nat.zero_lt_succ, C.lps, C.isLoop, bsliceD, contents, true_and, and_true, and_self, Bool.or_false, Bool.false_or, Bool.or_true, Bool.true_or, Bool.or_self, gate, evalI, St.ev, St.put, andT_some, List.getD_cons_succ, List.getD_cons_zero, List.cons_append, List.nil_append, List.replicate,
  List.length_cons, List.length_nil, Nat.reduceSub, Nat.reduceAdd, List.set_cons_succ, List.set_cons_zero, List.map_cons, List.map_nil, Option.map_some, Option.map_none, ← binJ_eq, binJ, decide_true, cond_true, cond_false, if_true, if_false,
  decide_eq_true_eq, decide_eq_false_iff_not, lenOfD, Bool.true_and, Bool.and_true, ressD, resD, D.ok, D.cells, one, reduceCtorEq, Nat.reduceEqDiff, Nat.succ_ne_self, Bool.not_true, Bool.not_false, ← wrapF_eq, Int.reduceEq, decide_false, beq_iff_eq, beq_eq_false_iff_ne, ne_eq]
        refine Z.T hmix ?_
        simp only [cast0, eq_self, not_bool, gP_T, gP_F, bne_self_eq_false, bne_iff_ne, bne_eq_false_iff_eq, Bool.false_eq_true, Bool.true_eq_false, false_implies, true_implies, implies_true, not_true_eq_false, not_false_eq_true, beq_self_eq_true, RegZ_nil, RegZ_op, RegZ_opg, RegZ_callF, RegZ_callFg, DrX_zero, DrX_op, DrX_opg, DrX_callF, DrX_callFg, Z_skip, Z_reg, Z_draw, Z_any, Z_seq, Z_cond, Z_block, Z_loop, Z_exit, Z_ret, pin, KO_ap, KZ_normal, KZ_exit, KZ_ret, KS_normal, KS_exit, KS_ret, KB_normal, KB_exit, KB_ret, KM_normal, KM_exit, KM_ret, KI_normal, KI_exit, KI_ret, andT_ite, map_ite, Option.bind_some, Int.reduceLT, Nat.mul_one, Int.toNat_natCast, Int.natCast_nonneg, EndT_normal, EndT_ret, EndT_exit, endX_some, tupD_one, tupD_two, tupD_nil, Nat.lt_add_one, Nat.zero_lt_succ, C.lps, C.isLoop, bsliceD, contents, true_and, and_true, and_self, Bool.or_false, Bool.false_or, Bool.or_true, Bool.true_or, Bool.or_self, gate, evalI, St.ev, St.put, andT_some, List.getD_cons_succ, List.getD_cons_zero, List.cons_append, List.nil_append, List.replicate,
  List.length_cons, List.length_nil, Nat.reduceSub, Nat.reduceAdd, List.set_cons_succ, List.set_cons_zero, List.map_cons, List.map_nil, Option.map_some, Option.map_none, ← binJ_eq, binJ, decide_true, cond_true, cond_false, if_true, if_false,
  decide_eq_true_eq, decide_eq_false_iff_not, lenOfD, Bool.true_and, Bool.and_true, ressD, resD, D.ok, D.cells, one, reduceCtorEq, Nat.reduceEqDiff, Nat.succ_ne_self, Bool.not_true, Bool.not_false, ← wrapF_eq, Int.reduceEq, decide_false, beq_iff_eq, beq_eq_false_iff_ne, ne_eq, wrapSu i (by omega), h]
        simp only [wordsB_take h, bytesD_append, ← List.append_assoc, Nat.mul_add, Nat.mul_one, ← Nat.add_assoc, hu]
        exact At.same _ _ _ (by repeat (first | exact Subs.refl' _ | refine Subs.cons (Sub.refl _) ?_ | refine Subs.cons (Sub.toDead _) ?_))
    · obtain rfl : i = W.length := by omega
      exact ⟨rfl, At.same _ _ _ (by repeat (first | exact Subs.refl' _ | refine Subs.cons (Sub.refl _) ?_ | refine Subs.cons (Sub.toDead _) ?_))⟩
  · simp only [cast0, eq_self, not_bool, gP_T, gP_F, bne_self_eq_false, bne_iff_ne, bne_eq_false_iff_eq, Bool.false_eq_true, Bool.true_eq_false, false_implies, true_implies, implies_true, not_true_eq_false, not_false_eq_true, beq_self_eq_true, RegZ_nil, RegZ_op, RegZ_opg, RegZ_callF, RegZ_callFg, DrX_zero, DrX_op, DrX_opg, DrX_callF, DrX_callFg, Z_skip, Z_reg, Z_draw, Z_any, Z_seq, Z_cond, Z_block, Z_loop, Z_exit, Z_ret, pin, KO_ap, KZ_normal, KZ_exit, KZ_ret, KS_normal, KS_exit, KS_ret, KB_normal, KB_exit, KB_ret, KM_normal, KM_exit, KM_ret, KI_normal, KI_exit, KI_ret, andT_ite, map_ite, Option.bind_some, Int.reduceLT, Nat.mul_one, Int.toNat_natCast, Int.natCast_nonneg, EndT_normal, EndT_ret, EndT_exit, endX_some, tupD_one, tupD_two, tupD_nil, Nat.lt_add_one, Nat.zero_lt_succ, C.lps, C.isLoop, bsliceD, contents, true_and, and_true, and_self, Bool.or_false, Bool.false_or, Bool.or_true, Bool.true_or, Bool.or_self, gate, evalI, St.ev, St.put, andT_some, List.getD_cons_succ, List.getD_cons_zero, List.cons_append, List.nil_append, List.replicate,
  List.length_cons, List.length_nil, Nat.reduceSub, Nat.reduceAdd, List.set_cons_succ, List.set_cons_zero, List.map_cons, List.map_nil, Option.map_some, Option.map_none, ← binJ_eq, binJ, decide_true, cond_true, cond_false, if_true, if_false,
  decide_eq_true_eq, decide_eq_false_iff_not, lenOfD, Bool.true_and, Bool.and_true, ressD, resD, D.ok, D.cells, one, reduceCtorEq, Nat.reduceEqDiff, Nat.succ_ne_self, Bool.not_true, Bool.not_false, ← wrapF_eq, Int.reduceEq, decide_false, beq_iff_eq, beq_eq_false_iff_ne, ne_eq]
    refine Z.T hmix ?_
    simp only [cast0, eq_self, not_bool, gP_T, gP_F, bne_self_eq_false, bne_iff_ne, bne_eq_false_iff_eq, Bool.false_eq_true, Bool.true_eq_false, false_implies, true_implies, implies_true, not_true_eq_false, not_false_eq_true, beq_self_eq_true, RegZ_nil, RegZ_op, RegZ_opg, RegZ_callF, RegZ_callFg, DrX_zero, DrX_op, DrX_opg, DrX_callF, DrX_callFg, Z_skip, Z_reg, Z_draw, Z_any, Z_seq, Z_cond, Z_block, Z_loop, Z_exit, Z_ret, pin, KO_ap, KZ_normal, KZ_exit, KZ_ret, KS_normal, KS_exit, KS_ret, KB_normal, KB_exit, KB_ret, KM_normal, KM_exit, KM_ret, KI_normal, KI_exit, KI_ret, andT_ite, map_ite, Option.bind_some, Int.reduceLT, Nat.mul_one, Int.toNat_natCast, Int.natCast_nonneg, EndT_normal, EndT_ret, EndT_exit, endX_some, tupD_one, tupD_two, tupD_nil, Nat.lt_add_one, Nat.zero_lt_succ, C.lps, C.isLoop, bsliceD, contents, true_and, and_true, and_self, Bool.or_false, Bool.false_or, Bool.or_true, Bool.true_or, Bool.or_self, gate, evalI, St.ev, St.put, andT_some, List.getD_cons_succ, List.getD_cons_zero, List.cons_append, List.nil_append, List.replicate,
  List.length_cons, List.length_nil, Nat.reduceSub, Nat.reduceAdd, List.set_cons_succ, List.set_cons_zero, List.map_cons, List.map_nil, Option.map_some, Option.map_none, ← binJ_eq, binJ, decide_true, cond_true, cond_false, if_true, if_false,
  decide_eq_true_eq, decide_eq_false_iff_not, lenOfD, Bool.true_and, Bool.and_true, ressD, resD, D.ok, D.cells, one, reduceCtorEq, Nat.reduceEqDiff, Nat.succ_ne_self, Bool.not_true, Bool.not_false, ← wrapF_eq, Int.reduceEq, decide_false, beq_iff_eq, beq_eq_false_iff_ne, ne_eq, List.take_length]
end Go.Proofs.Ytjbhgmeokoconaa
