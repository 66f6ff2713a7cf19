/-
  Numbers read from bytes.
-/
import Derived.Test.YtjbhgmeokoconaaEnc
set_option linter.unusedSimpArgs false
set_option linter.unusedVariables false
set_option maxHeartbeats 2000000
namespace Go.Proofs.Ytjbhgmeokoconaa
open Go.Tm
set_option maxRecDepth 10000

/-- The number in bytes, the lowest first. -/
def leN : List (BitVec 8) → Nat
  | [] => 0
  | b :: l => b.toNat + 256 * leN l

theorem leN_append : ∀ a b : List (BitVec 8), leN (a ++ b) = leN a + 256 ^ a.length * leN b
  | [], b => by simp [leN]
  | x :: a, b => by
    simp only [List.cons_append, leN, leN_append a b, List.length_cons, Nat.pow_succ, Nat.mul_add]
    rw [Nat.mul_comm (256 ^ a.length) 256, Nat.mul_assoc, Nat.add_assoc]

theorem leN_lt : ∀ l : List (BitVec 8), leN l < 256 ^ l.length
  | [] => by simp [leN]
  | b :: l => by
    have := leN_lt l
    have := b.isLt
    simp only [leN, List.length_cons, Nat.pow_succ]
    omega

theorem leN_take_succ {l : List (BitVec 8)} {i : Nat} (h : i < l.length) : leN (l.take (i + 1)) = leN (l.take i) + 256 ^ i * l[i].toNat := by
  rw [List.take_succ_eq_append_getElem h, leN_append, List.length_take, Nat.min_eq_left (Nat.le_of_lt h)]
  simp [leN]

theorem shl64 (b : BitVec 8) (i : Nat) (h : i < 8) : (bif decide (wrapF .i64 (8 * (i : Int)) < 0) then none else some (Value.int .u64 (wrapF .u64 (wrapF .u64 (b.toNat : Int) * ((2 ^ min (wrapF .i64 (8 * (i : Int))).toNat IntKind.u64.bits : Nat) : Int))))) = some (Value.int .u64 ((256 ^ i * b.toNat : Nat) : Int)) := by
  have hb := b.isLt
  have e1 : wrapF .i64 (8 * (i : Int)) = ((8 * i : Nat) : Int) := by rw [wrapI (by omega)]; omega
  rw [e1, wrapU64N (by omega), Int.toNat_natCast, show min (8 * i) IntKind.u64.bits = 8 * i from Nat.min_eq_left (by show 8 * i ≤ 64; omega)]
  rw [show decide (((8 * i : Nat) : Int) < 0) = false by simp; omega, cond_false]
  rw [show (2 : Nat) ^ (8 * i) = 256 ^ i by rw [Nat.pow_mul]]
  have hp : 256 ^ i ≤ 256 ^ 7 := Nat.pow_le_pow_right (by decide) (by omega)
  rw [show ((b.toNat : Int) * ((256 ^ i : Nat) : Int)) = ((256 ^ i * b.toNat : Nat) : Int) by rw [Nat.mul_comm]; norm_cast]
  rw [wrapU64N]
  calc 256 ^ i * b.toNat ≤ 256 ^ 7 * 255 := Nat.mul_le_mul hp (by omega)
    _ < 18446744073709551616 := by decide

theorem or64 (a : Nat) (i : Nat) (b : BitVec 8) (ha : a < 256 ^ i) (h : i < 8) : bitJ Nat.lor .u64 (a : Int) ((256 ^ i * b.toNat : Nat) : Int) = .int .u64 ((a + 256 ^ i * b.toNat : Nat) : Int) := by
  have hb := b.isLt
  have hp : 256 ^ i ≤ 256 ^ 7 := Nat.pow_le_pow_right (by decide) (by omega)
  have h1 : a + 256 ^ i * b.toNat < 18446744073709551616 := by
    calc a + 256 ^ i * b.toNat < 256 ^ i + 256 ^ i * b.toNat := Nat.add_lt_add_right ha _
      _ = 256 ^ i * (b.toNat + 1) := by rw [Nat.mul_add, Nat.mul_one, Nat.add_comm]
      _ ≤ 256 ^ 7 * 256 := Nat.mul_le_mul hp (by omega)
      _ = 18446744073709551616 := by decide
  generalize hq : 256 ^ i * b.toNat = q at h1 ⊢
  have e1 : ((a : Int) % modF .u64).toNat = a := by simp only [modF]; omega
  have e2 : ((q : Int) % modF .u64).toNat = q := by simp only [modF]; omega
  unfold bitJ
  rw [e1, e2]
  have e3 : Nat.lor a q = a + q := by
    have h3 : (2 : Nat) ^ (8 * i) = 256 ^ i := by rw [Nat.pow_mul]
    have h2 := Nat.two_pow_add_eq_or_of_lt (i := 8 * i) (b := a) (by rw [h3]; exact ha) b.toNat
    rw [h3, hq] at h2
    show a ||| q = a + q
    rw [Nat.or_comm, ← h2, Nat.add_comm]
  rw [e3, wrapU64N h1]

theorem take35 (m : List Ent) (rid v n : Nat) (bs : List (BitVec 8)) (hid : m[rid]? = some (.live 1 v [.agg [.sl 1 (bytesD bs)]])) (hb : m.all (Ent.below m.length) = true) (hn : n ≤ bs.length) (hn8 : n ≤ 8) :
    CallT Try.prog 35 [.ref rid v 0 0, .v (.int .i64 n)] m fun d m' => d = .v (.int .u64 (leN (bs.take n) : Nat)) ∧ m' = m.set rid (.live 1 v [.agg [.sl 1 (bytesD (bs.drop n))]]) := by
  have hlt : rid < m.length := (List.getElem?_eq_some_iff.1 hid).1
  refine callT_of k35_ok k35_name (Z.T hmix ?_)
  simp only [k35, k35c, cast0, eq_self, not_bool, gP_T, gP_F, bne_self_eq_false, bne_iff_ne, bne_eq_false_iff_eq, Bool.false_eq_true, Bool.true_eq_false, false_implies, true_implies, implies_true, not_true_eq_false, not_false_eq_true, beq_self_eq_true, RegZ_nil, RegZ_op, RegZ_opg, RegZ_callF, RegZ_callFg, DrX_zero, DrX_op, DrX_opg, DrX_callF, DrX_callFg, Z_skip, Z_reg, Z_draw, Z_any, Z_seq, Z_cond, Z_block, Z_loop, Z_exit, Z_ret, pin, KO_ap, KZ_normal, KZ_exit, KZ_ret, KS_normal, KS_exit, KS_ret, KB_normal, KB_exit, KB_ret, KM_normal, KM_exit, KM_ret, KI_normal, KI_exit, KI_ret, andT_ite, map_ite, Option.bind_some, Int.reduceLT, Nat.mul_one, Int.toNat_natCast, Int.natCast_nonneg, EndT_normal, EndT_ret, EndT_exit, endX_some, tupD_one, tupD_two, tupD_nil, Nat.lt_add_one, Nat.zero_lt_succ, C.lps, C.isLoop, bsliceD, contents, true_and, and_true, and_self, Bool.or_false, Bool.false_or, Bool.or_true, Bool.true_or, Bool.or_self, gate, evalI, St.ev, St.put, andT_some, List.getD_cons_succ, List.getD_cons_zero, List.cons_append, List.nil_append, List.replicate,
  List.length_cons, List.length_nil, Nat.reduceSub, Nat.reduceAdd, List.set_cons_succ, List.set_cons_zero, List.map_cons, List.map_nil, Option.map_some, Option.map_none, ← binJ_eq, binJ, decide_true, cond_true, cond_false, if_true, if_false,
  decide_eq_true_eq, decide_eq_false_iff_not, lenOfD, Bool.true_and, Bool.and_true, ressD, resD, D.ok, D.cells, one, reduceCtorEq, Nat.reduceEqDiff, Nat.succ_ne_self, Bool.not_true, Bool.not_false, ← wrapF_eq, Int.reduceEq, decide_false, beq_iff_eq, beq_eq_false_iff_ne, ne_eq]
  refine T.blkI n (fun i => ⟨[.ref rid v 0 0, .v (.int .i64 n), .dead, .dead, .dead, .v (.int .u64 (leN (bs.take i) : Nat)), .dead, .v (.int .i64 n), .v (.int .i64 i), .dead, .dead, .dead, .dead, .dead, .dead, .dead, .dead, .dead, .dead, .dead, .dead, .dead, .dead, .dead, .dead, .dead, .dead, .dead, .dead, .dead, .dead, .dead, .dead, .dead, .dead], m⟩) ?_ ?_ ?_ (by repeat (first | exact stab_S | exact stab_C | exact stab_I | exact stab_M | refine stab_B ?_)) ?_
  · exact At.same _ _ _ (by repeat (first | exact Subs.refl' _ | refine Subs.cons (Sub.refl _) ?_ | refine Subs.cons (Sub.toDead _) ?_))
  · intro i hi
    exact ⟨by simp, by simp [Ent.below, belows, below, belows_free, below_free, belowsApp, hlt], hb⟩
  · intro i hi
    refine Z.T hmix ?_
    rcases Nat.lt_or_ge i n with h | h
    · simp only [cast0, eq_self, not_bool, gP_T, gP_F, bne_self_eq_false, bne_iff_ne, bne_eq_false_iff_eq, Bool.false_eq_true, Bool.true_eq_false, false_implies, true_implies, implies_true, not_true_eq_false, not_false_eq_true, beq_self_eq_true, RegZ_nil, RegZ_op, RegZ_opg, RegZ_callF, RegZ_callFg, DrX_zero, DrX_op, DrX_opg, DrX_callF, DrX_callFg, Z_skip, Z_reg, Z_draw, Z_any, Z_seq, Z_cond, Z_block, Z_loop, Z_exit, Z_ret, pin, KO_ap, KZ_normal, KZ_exit, KZ_ret, KS_normal, KS_exit, KS_ret, KB_normal, KB_exit, KB_ret, KM_normal, KM_exit, KM_ret, KI_normal, KI_exit, KI_ret, andT_ite, map_ite, Option.bind_some, Int.reduceLT, Nat.mul_one, Int.toNat_natCast, Int.natCast_nonneg, EndT_normal, EndT_ret, EndT_exit, endX_some, tupD_one, tupD_two, tupD_nil, Nat.lt_add_one, Nat.zero_lt_succ, C.lps, C.isLoop, bsliceD, contents, true_and, and_true, and_self, Bool.or_false, Bool.false_or, Bool.or_true, Bool.true_or, Bool.or_self, gate, evalI, St.ev, St.put, andT_some, List.getD_cons_succ, List.getD_cons_zero, List.cons_append, List.nil_append, List.replicate,
  List.length_cons, List.length_nil, Nat.reduceSub, Nat.reduceAdd, List.set_cons_succ, List.set_cons_zero, List.map_cons, List.map_nil, Option.map_some, Option.map_none, ← binJ_eq, binJ, decide_true, cond_true, cond_false, if_true, if_false,
  decide_eq_true_eq, decide_eq_false_iff_not, lenOfD, Bool.true_and, Bool.and_true, ressD, resD, D.ok, D.cells, one, reduceCtorEq, Nat.reduceEqDiff, Nat.succ_ne_self, Bool.not_true, Bool.not_false, ← wrapF_eq, Int.reduceEq, decide_false, beq_iff_eq, beq_eq_false_iff_ne, ne_eq, Tm.part, List.getElem?_cons_zero, List.getElem?_cons_succ, List.drop_succ_cons, List.drop_zero, List.take_succ_cons, List.take_zero, List.take_nil, List.drop_nil, Nat.zero_add, Nat.add_zero, List.length_map, Nat.le_refl, Nat.reduceLeDiff, Nat.reduceLT, Int.reduceLE, Int.reduceToNat, Nat.reducePow, Int.reducePow, ite_true, ite_false, D.upd, splice, List.append_nil, buildD, bound, sliceD, leaves, getq_last, getq_left, setq_left, setq_last, getq_set, getq_ne, setq_self, List.length_set, List.length_append, natlt, h, hid, bytesD_get (Nat.lt_of_lt_of_le h hn), wrapSu i (by omega)]
      rw [shl64 _ _ (by omega)]
      have hlt' := leN_lt (bs.take i)
      rw [List.length_take, Nat.min_eq_left (by omega)] at hlt'
      simp only [cast0, eq_self, not_bool, gP_T, gP_F, bne_self_eq_false, bne_iff_ne, bne_eq_false_iff_eq, Bool.false_eq_true, Bool.true_eq_false, false_implies, true_implies, implies_true, not_true_eq_false, not_false_eq_true, beq_self_eq_true, RegZ_nil, RegZ_op, RegZ_opg, RegZ_callF, RegZ_callFg, DrX_zero, DrX_op, DrX_opg, DrX_callF, DrX_callFg, Z_skip, Z_reg, Z_draw, Z_any, Z_seq, Z_cond, Z_block, Z_loop, Z_exit, Z_ret, pin, KO_ap, KZ_normal, KZ_exit, KZ_ret, KS_normal, KS_exit, KS_ret, KB_normal, KB_exit, KB_ret, KM_normal, KM_exit, KM_ret, KI_normal, KI_exit, KI_ret, andT_ite, map_ite, Option.bind_some, Int.reduceLT, Nat.mul_one, Int.toNat_natCast, Int.natCast_nonneg, EndT_normal, EndT_ret, EndT_exit, endX_some, tupD_one, tupD_two, tupD_nil, Nat.lt_add_one, Nat.zero_lt_succ, C.lps, C.isLoop, bsliceD, contents, true_and, and_true, and_self, Bool.or_false, Bool.false_or, Bool.or_true, Bool.true_or, Bool.or_self, gate, evalI, St.ev, St.put, andT_some, List.getD_cons_succ, List.getD_cons_zero, List.cons_append, List.nil_append, List.replicate,
  List.length_cons, List.length_nil, Nat.reduceSub, Nat.reduceAdd, List.set_cons_succ, List.set_cons_zero, List.map_cons, List.map_nil, Option.map_some, Option.map_none, ← binJ_eq, binJ, decide_true, cond_true, cond_false, if_true, if_false,
  decide_eq_true_eq, decide_eq_false_iff_not, lenOfD, Bool.true_and, Bool.and_true, ressD, resD, D.ok, D.cells, one, reduceCtorEq, Nat.reduceEqDiff, Nat.succ_ne_self, Bool.not_true, Bool.not_false, ← wrapF_eq, Int.reduceEq, decide_false, beq_iff_eq, beq_eq_false_iff_ne, ne_eq, or64 _ _ _ hlt' (Nat.lt_of_lt_of_le h hn8), wrapSu i (by omega), h]
      rw [← leN_take_succ (Nat.lt_of_lt_of_le h hn)]
      exact At.same _ _ _ (by repeat (first | exact Subs.refl' _ | refine Subs.cons (Sub.refl _) ?_ | refine Subs.cons (Sub.toDead _) ?_))
    · obtain rfl : i = n := by omega
      simp only [cast0, eq_self, not_bool, gP_T, gP_F, bne_self_eq_false, bne_iff_ne, bne_eq_false_iff_eq, Bool.false_eq_true, Bool.true_eq_false, false_implies, true_implies, implies_true, not_true_eq_false, not_false_eq_true, beq_self_eq_true, RegZ_nil, RegZ_op, RegZ_opg, RegZ_callF, RegZ_callFg, DrX_zero, DrX_op, DrX_opg, DrX_callF, DrX_callFg, Z_skip, Z_reg, Z_draw, Z_any, Z_seq, Z_cond, Z_block, Z_loop, Z_exit, Z_ret, pin, KO_ap, KZ_normal, KZ_exit, KZ_ret, KS_normal, KS_exit, KS_ret, KB_normal, KB_exit, KB_ret, KM_normal, KM_exit, KM_ret, KI_normal, KI_exit, KI_ret, andT_ite, map_ite, Option.bind_some, Int.reduceLT, Nat.mul_one, Int.toNat_natCast, Int.natCast_nonneg, EndT_normal, EndT_ret, EndT_exit, endX_some, tupD_one, tupD_two, tupD_nil, Nat.lt_add_one, Nat.zero_lt_succ, C.lps, C.isLoop, bsliceD, contents, true_and, and_true, and_self, Bool.or_false, Bool.false_or, Bool.or_true, Bool.true_or, Bool.or_self, gate, evalI, St.ev, St.put, andT_some, List.getD_cons_succ, List.getD_cons_zero, List.cons_append, List.nil_append, List.replicate,
  List.length_cons, List.length_nil, Nat.reduceSub, Nat.reduceAdd, List.set_cons_succ, List.set_cons_zero, List.map_cons, List.map_nil, Option.map_some, Option.map_none, ← binJ_eq, binJ, decide_true, cond_true, cond_false, if_true, if_false,
  decide_eq_true_eq, decide_eq_false_iff_not, lenOfD, Bool.true_and, Bool.and_true, ressD, resD, D.ok, D.cells, one, reduceCtorEq, Nat.reduceEqDiff, Nat.succ_ne_self, Bool.not_true, Bool.not_false, ← wrapF_eq, Int.reduceEq, decide_false, beq_iff_eq, beq_eq_false_iff_ne, ne_eq, Tm.part, List.getElem?_cons_zero, List.getElem?_cons_succ, List.drop_succ_cons, List.drop_zero, List.take_succ_cons, List.take_zero, List.take_nil, List.drop_nil, Nat.zero_add, Nat.add_zero, List.length_map, Nat.le_refl, Nat.reduceLeDiff, Nat.reduceLT, Int.reduceLE, Int.reduceToNat, Nat.reducePow, Int.reducePow, ite_true, ite_false, D.upd, splice, List.append_nil, buildD, bound, sliceD, leaves, natlt, Nat.lt_irrefl]
      exact At.same _ _ _ (by repeat (first | exact Subs.refl' _ | refine Subs.cons (Sub.refl _) ?_ | refine Subs.cons (Sub.toDead _) ?_))
  · simp only [cast0, eq_self, not_bool, gP_T, gP_F, bne_self_eq_false, bne_iff_ne, bne_eq_false_iff_eq, Bool.false_eq_true, Bool.true_eq_false, false_implies, true_implies, implies_true, not_true_eq_false, not_false_eq_true, beq_self_eq_true, RegZ_nil, RegZ_op, RegZ_opg, RegZ_callF, RegZ_callFg, DrX_zero, DrX_op, DrX_opg, DrX_callF, DrX_callFg, Z_skip, Z_reg, Z_draw, Z_any, Z_seq, Z_cond, Z_block, Z_loop, Z_exit, Z_ret, pin, KO_ap, KZ_normal, KZ_exit, KZ_ret, KS_normal, KS_exit, KS_ret, KB_normal, KB_exit, KB_ret, KM_normal, KM_exit, KM_ret, KI_normal, KI_exit, KI_ret, andT_ite, map_ite, Option.bind_some, Int.reduceLT, Nat.mul_one, Int.toNat_natCast, Int.natCast_nonneg, EndT_normal, EndT_ret, EndT_exit, endX_some, tupD_one, tupD_two, tupD_nil, Nat.lt_add_one, Nat.zero_lt_succ, C.lps, C.isLoop, bsliceD, contents, true_and, and_true, and_self, Bool.or_false, Bool.false_or, Bool.or_true, Bool.true_or, Bool.or_self, gate, evalI, St.ev, St.put, andT_some, List.getD_cons_succ, List.getD_cons_zero, List.cons_append, List.nil_append, List.replicate,
  List.length_cons, List.length_nil, Nat.reduceSub, Nat.reduceAdd, List.set_cons_succ, List.set_cons_zero, List.map_cons, List.map_nil, Option.map_some, Option.map_none, ← binJ_eq, binJ, decide_true, cond_true, cond_false, if_true, if_false,
  decide_eq_true_eq, decide_eq_false_iff_not, lenOfD, Bool.true_and, Bool.and_true, ressD, resD, D.ok, D.cells, one, reduceCtorEq, Nat.reduceEqDiff, Nat.succ_ne_self, Bool.not_true, Bool.not_false, ← wrapF_eq, Int.reduceEq, decide_false, beq_iff_eq, beq_eq_false_iff_ne, ne_eq]
    refine Z.T hmix ?_
    simp only [cast0, eq_self, not_bool, gP_T, gP_F, bne_self_eq_false, bne_iff_ne, bne_eq_false_iff_eq, Bool.false_eq_true, Bool.true_eq_false, false_implies, true_implies, implies_true, not_true_eq_false, not_false_eq_true, beq_self_eq_true, RegZ_nil, RegZ_op, RegZ_opg, RegZ_callF, RegZ_callFg, DrX_zero, DrX_op, DrX_opg, DrX_callF, DrX_callFg, Z_skip, Z_reg, Z_draw, Z_any, Z_seq, Z_cond, Z_block, Z_loop, Z_exit, Z_ret, pin, KO_ap, KZ_normal, KZ_exit, KZ_ret, KS_normal, KS_exit, KS_ret, KB_normal, KB_exit, KB_ret, KM_normal, KM_exit, KM_ret, KI_normal, KI_exit, KI_ret, andT_ite, map_ite, Option.bind_some, Int.reduceLT, Nat.mul_one, Int.toNat_natCast, Int.natCast_nonneg, EndT_normal, EndT_ret, EndT_exit, endX_some, tupD_one, tupD_two, tupD_nil, Nat.lt_add_one, Nat.zero_lt_succ, C.lps, C.isLoop, bsliceD, contents, true_and, and_true, and_self, Bool.or_false, Bool.false_or, Bool.or_true, Bool.true_or, Bool.or_self, gate, evalI, St.ev, St.put, andT_some, List.getD_cons_succ, List.getD_cons_zero, List.cons_append, List.nil_append, List.replicate,
  List.length_cons, List.length_nil, Nat.reduceSub, Nat.reduceAdd, List.set_cons_succ, List.set_cons_zero, List.map_cons, List.map_nil, Option.map_some, Option.map_none, ← binJ_eq, binJ, decide_true, cond_true, cond_false, if_true, if_false,
  decide_eq_true_eq, decide_eq_false_iff_not, lenOfD, Bool.true_and, Bool.and_true, ressD, resD, D.ok, D.cells, one, reduceCtorEq, Nat.reduceEqDiff, Nat.succ_ne_self, Bool.not_true, Bool.not_false, ← wrapF_eq, Int.reduceEq, decide_false, beq_iff_eq, beq_eq_false_iff_ne, ne_eq, Tm.part, List.getElem?_cons_zero, List.getElem?_cons_succ, List.drop_succ_cons, List.drop_zero, List.take_succ_cons, List.take_zero, List.take_nil, List.drop_nil, Nat.zero_add, Nat.add_zero, List.length_map, Nat.le_refl, Nat.reduceLeDiff, Nat.reduceLT, Int.reduceLE, Int.reduceToNat, Nat.reducePow, Int.reducePow, ite_true, ite_false, D.upd, splice, List.append_nil, buildD, bound, sliceD, leaves, hid, bytesD_len]
    refine ⟨hn, ?_⟩
    rw [show (List.drop n (bytesD bs)).take (bs.length - n) = bytesD (bs.drop n) by
      rw [List.take_of_length_le (by simp [bytesD_len])]; simp [bytesD, List.map_drop]]

theorem half30 (m : List Ent) (rid v : Nat) (bs : List (BitVec 8)) (hid : m[rid]? = some (.live 1 v [.agg [.sl 1 (bytesD bs)]])) (hb : m.all (Ent.below m.length) = true) (hn : 4 ≤ bs.length) :
    CallT Try.prog 30 [.ref rid v 0 0] m fun d m' => d = i64 (leN (bs.take 4) : Nat) ∧ m' = m.set rid (.live 1 v [.agg [.sl 1 (bytesD (bs.drop 4))]]) := by
  refine callT_of k30_ok k30_name (Z.T hmix ?_)
  simp only [k30, k30c, cast0, eq_self, not_bool, gP_T, gP_F, bne_self_eq_false, bne_iff_ne, bne_eq_false_iff_eq, Bool.false_eq_true, Bool.true_eq_false, false_implies, true_implies, implies_true, not_true_eq_false, not_false_eq_true, beq_self_eq_true, RegZ_nil, RegZ_op, RegZ_opg, RegZ_callF, RegZ_callFg, DrX_zero, DrX_op, DrX_opg, DrX_callF, DrX_callFg, Z_skip, Z_reg, Z_draw, Z_any, Z_seq, Z_cond, Z_block, Z_loop, Z_exit, Z_ret, pin, KO_ap, KZ_normal, KZ_exit, KZ_ret, KS_normal, KS_exit, KS_ret, KB_normal, KB_exit, KB_ret, KM_normal, KM_exit, KM_ret, KI_normal, KI_exit, KI_ret, andT_ite, map_ite, Option.bind_some, Int.reduceLT, Nat.mul_one, Int.toNat_natCast, Int.natCast_nonneg, EndT_normal, EndT_ret, EndT_exit, endX_some, tupD_one, tupD_two, tupD_nil, Nat.lt_add_one, Nat.zero_lt_succ, C.lps, C.isLoop, bsliceD, contents, true_and, and_true, and_self, Bool.or_false, Bool.false_or, Bool.or_true, Bool.true_or, Bool.or_self, gate, evalI, St.ev, St.put, andT_some, List.getD_cons_succ, List.getD_cons_zero, List.cons_append, List.nil_append, List.replicate,
  List.length_cons, List.length_nil, Nat.reduceSub, Nat.reduceAdd, List.set_cons_succ, List.set_cons_zero, List.map_cons, List.map_nil, Option.map_some, Option.map_none, ← binJ_eq, binJ, decide_true, cond_true, cond_false, if_true, if_false,
  decide_eq_true_eq, decide_eq_false_iff_not, lenOfD, Bool.true_and, Bool.and_true, ressD, resD, D.ok, D.cells, one, reduceCtorEq, Nat.reduceEqDiff, Nat.succ_ne_self, Bool.not_true, Bool.not_false, ← wrapF_eq, Int.reduceEq, decide_false, beq_iff_eq, beq_eq_false_iff_ne, ne_eq]
  refine callX_eq (take35 m rid v 4 bs hid hb hn (by omega)) ?_
  have h := leN_lt (bs.take 4)
  rw [List.length_take, Nat.min_eq_left (by omega)] at h
  simp only [cast0, eq_self, not_bool, gP_T, gP_F, bne_self_eq_false, bne_iff_ne, bne_eq_false_iff_eq, Bool.false_eq_true, Bool.true_eq_false, false_implies, true_implies, implies_true, not_true_eq_false, not_false_eq_true, beq_self_eq_true, RegZ_nil, RegZ_op, RegZ_opg, RegZ_callF, RegZ_callFg, DrX_zero, DrX_op, DrX_opg, DrX_callF, DrX_callFg, Z_skip, Z_reg, Z_draw, Z_any, Z_seq, Z_cond, Z_block, Z_loop, Z_exit, Z_ret, pin, KO_ap, KZ_normal, KZ_exit, KZ_ret, KS_normal, KS_exit, KS_ret, KB_normal, KB_exit, KB_ret, KM_normal, KM_exit, KM_ret, KI_normal, KI_exit, KI_ret, andT_ite, map_ite, Option.bind_some, Int.reduceLT, Nat.mul_one, Int.toNat_natCast, Int.natCast_nonneg, EndT_normal, EndT_ret, EndT_exit, endX_some, tupD_one, tupD_two, tupD_nil, Nat.lt_add_one, Nat.zero_lt_succ, C.lps, C.isLoop, bsliceD, contents, true_and, and_true, and_self, Bool.or_false, Bool.false_or, Bool.or_true, Bool.true_or, Bool.or_self, gate, evalI, St.ev, St.put, andT_some, List.getD_cons_succ, List.getD_cons_zero, List.cons_append, List.nil_append, List.replicate,
  List.length_cons, List.length_nil, Nat.reduceSub, Nat.reduceAdd, List.set_cons_succ, List.set_cons_zero, List.map_cons, List.map_nil, Option.map_some, Option.map_none, ← binJ_eq, binJ, decide_true, cond_true, cond_false, if_true, if_false,
  decide_eq_true_eq, decide_eq_false_iff_not, lenOfD, Bool.true_and, Bool.and_true, ressD, resD, D.ok, D.cells, one, reduceCtorEq, Nat.reduceEqDiff, Nat.succ_ne_self, Bool.not_true, Bool.not_false, ← wrapF_eq, Int.reduceEq, decide_false, beq_iff_eq, beq_eq_false_iff_ne, ne_eq]
  rw [wrapN _ (by omega)]
  rfl

/-- A word as a signed number. -/
def sg64 (u : Nat) : Int := wrapF .i64 (u : Int)

theorem word32 (m : List Ent) (rid v : Nat) (bs : List (BitVec 8)) (hid : m[rid]? = some (.live 1 v [.agg [.sl 1 (bytesD bs)]])) (hb : m.all (Ent.below m.length) = true) (hn : 8 ≤ bs.length) :
    CallT Try.prog 32 [.ref rid v 0 0] m fun d m' => d = i64 (sg64 (leN (bs.take 8))) ∧ m' = m.set rid (.live 1 v [.agg [.sl 1 (bytesD (bs.drop 8))]]) := by
  refine callT_of k32_ok k32_name (Z.T hmix ?_)
  simp only [k32, k32c, cast0, eq_self, not_bool, gP_T, gP_F, bne_self_eq_false, bne_iff_ne, bne_eq_false_iff_eq, Bool.false_eq_true, Bool.true_eq_false, false_implies, true_implies, implies_true, not_true_eq_false, not_false_eq_true, beq_self_eq_true, RegZ_nil, RegZ_op, RegZ_opg, RegZ_callF, RegZ_callFg, DrX_zero, DrX_op, DrX_opg, DrX_callF, DrX_callFg, Z_skip, Z_reg, Z_draw, Z_any, Z_seq, Z_cond, Z_block, Z_loop, Z_exit, Z_ret, pin, KO_ap, KZ_normal, KZ_exit, KZ_ret, KS_normal, KS_exit, KS_ret, KB_normal, KB_exit, KB_ret, KM_normal, KM_exit, KM_ret, KI_normal, KI_exit, KI_ret, andT_ite, map_ite, Option.bind_some, Int.reduceLT, Nat.mul_one, Int.toNat_natCast, Int.natCast_nonneg, EndT_normal, EndT_ret, EndT_exit, endX_some, tupD_one, tupD_two, tupD_nil, Nat.lt_add_one, Nat.zero_lt_succ, C.lps, C.isLoop, bsliceD, contents, true_and, and_true, and_self, Bool.or_false, Bool.false_or, Bool.or_true, Bool.true_or, Bool.or_self, gate, evalI, St.ev, St.put, andT_some, List.getD_cons_succ, List.getD_cons_zero, List.cons_append, List.nil_append, List.replicate,
  List.length_cons, List.length_nil, Nat.reduceSub, Nat.reduceAdd, List.set_cons_succ, List.set_cons_zero, List.map_cons, List.map_nil, Option.map_some, Option.map_none, ← binJ_eq, binJ, decide_true, cond_true, cond_false, if_true, if_false,
  decide_eq_true_eq, decide_eq_false_iff_not, lenOfD, Bool.true_and, Bool.and_true, ressD, resD, D.ok, D.cells, one, reduceCtorEq, Nat.reduceEqDiff, Nat.succ_ne_self, Bool.not_true, Bool.not_false, ← wrapF_eq, Int.reduceEq, decide_false, beq_iff_eq, beq_eq_false_iff_ne, ne_eq]
  refine callX_eq (take35 m rid v 8 bs hid hb hn (by omega)) ?_
  simp only [cast0, eq_self, not_bool, gP_T, gP_F, bne_self_eq_false, bne_iff_ne, bne_eq_false_iff_eq, Bool.false_eq_true, Bool.true_eq_false, false_implies, true_implies, implies_true, not_true_eq_false, not_false_eq_true, beq_self_eq_true, RegZ_nil, RegZ_op, RegZ_opg, RegZ_callF, RegZ_callFg, DrX_zero, DrX_op, DrX_opg, DrX_callF, DrX_callFg, Z_skip, Z_reg, Z_draw, Z_any, Z_seq, Z_cond, Z_block, Z_loop, Z_exit, Z_ret, pin, KO_ap, KZ_normal, KZ_exit, KZ_ret, KS_normal, KS_exit, KS_ret, KB_normal, KB_exit, KB_ret, KM_normal, KM_exit, KM_ret, KI_normal, KI_exit, KI_ret, andT_ite, map_ite, Option.bind_some, Int.reduceLT, Nat.mul_one, Int.toNat_natCast, Int.natCast_nonneg, EndT_normal, EndT_ret, EndT_exit, endX_some, tupD_one, tupD_two, tupD_nil, Nat.lt_add_one, Nat.zero_lt_succ, C.lps, C.isLoop, bsliceD, contents, true_and, and_true, and_self, Bool.or_false, Bool.false_or, Bool.or_true, Bool.true_or, Bool.or_self, gate, evalI, St.ev, St.put, andT_some, List.getD_cons_succ, List.getD_cons_zero, List.cons_append, List.nil_append, List.replicate,
  List.length_cons, List.length_nil, Nat.reduceSub, Nat.reduceAdd, List.set_cons_succ, List.set_cons_zero, List.map_cons, List.map_nil, Option.map_some, Option.map_none, ← binJ_eq, binJ, decide_true, cond_true, cond_false, if_true, if_false,
  decide_eq_true_eq, decide_eq_false_iff_not, lenOfD, Bool.true_and, Bool.and_true, ressD, resD, D.ok, D.cells, one, reduceCtorEq, Nat.reduceEqDiff, Nat.succ_ne_self, Bool.not_true, Bool.not_false, ← wrapF_eq, Int.reduceEq, decide_false, beq_iff_eq, beq_eq_false_iff_ne, ne_eq]
  rfl

theorem get33 (n : Nat) (bs : List (BitVec 8)) (hn : n ≤ bs.length) (hn8 : n ≤ 8) :
    CallT Try.prog 33 [.sl 1 (bytesD bs), .v (.int .i64 n)] [] fun d m' => d = .v (.int .u64 (leN (bs.take n) : Nat)) := by
  refine callT_of k33_ok k33_name (Z.T hmix ?_)
  simp only [k33, k33c, cast0, eq_self, not_bool, gP_T, gP_F, bne_self_eq_false, bne_iff_ne, bne_eq_false_iff_eq, Bool.false_eq_true, Bool.true_eq_false, false_implies, true_implies, implies_true, not_true_eq_false, not_false_eq_true, beq_self_eq_true, RegZ_nil, RegZ_op, RegZ_opg, RegZ_callF, RegZ_callFg, DrX_zero, DrX_op, DrX_opg, DrX_callF, DrX_callFg, Z_skip, Z_reg, Z_draw, Z_any, Z_seq, Z_cond, Z_block, Z_loop, Z_exit, Z_ret, pin, KO_ap, KZ_normal, KZ_exit, KZ_ret, KS_normal, KS_exit, KS_ret, KB_normal, KB_exit, KB_ret, KM_normal, KM_exit, KM_ret, KI_normal, KI_exit, KI_ret, andT_ite, map_ite, Option.bind_some, Int.reduceLT, Nat.mul_one, Int.toNat_natCast, Int.natCast_nonneg, EndT_normal, EndT_ret, EndT_exit, endX_some, tupD_one, tupD_two, tupD_nil, Nat.lt_add_one, Nat.zero_lt_succ, C.lps, C.isLoop, bsliceD, contents, true_and, and_true, and_self, Bool.or_false, Bool.false_or, Bool.or_true, Bool.true_or, Bool.or_self, gate, evalI, St.ev, St.put, andT_some, List.getD_cons_succ, List.getD_cons_zero, List.cons_append, List.nil_append, List.replicate,
  List.length_cons, List.length_nil, Nat.reduceSub, Nat.reduceAdd, List.set_cons_succ, List.set_cons_zero, List.map_cons, List.map_nil, Option.map_some, Option.map_none, ← binJ_eq, binJ, decide_true, cond_true, cond_false, if_true, if_false,
  decide_eq_true_eq, decide_eq_false_iff_not, lenOfD, Bool.true_and, Bool.and_true, ressD, resD, D.ok, D.cells, one, reduceCtorEq, Nat.reduceEqDiff, Nat.succ_ne_self, Bool.not_true, Bool.not_false, ← wrapF_eq, Int.reduceEq, decide_false, beq_iff_eq, beq_eq_false_iff_ne, ne_eq]
  refine T.blkI n (fun j => ⟨[.sl 1 (bytesD bs), .dead, .dead, .dead, .dead, .v (.int .u64 (leN ((bs.take n).drop (n - j)) : Nat)), .v (.int .i64 ((n : Int) - j - 1)), .dead, .dead, .dead, .dead, .dead, .dead, .dead, .dead, .dead, .dead, .dead, .dead, .dead, .dead, .dead], []⟩) ?_ ?_ ?_ (by repeat (first | exact stab_S | exact stab_C | exact stab_I | exact stab_M | refine stab_B ?_)) ?_
  · refine At.same _ _ _ ?_
    simp only [Nat.sub_zero]
    rw [wrapI (by omega), List.drop_of_length_le (by simp [List.length_take]; omega)]
    repeat (first | exact Subs.refl' _ | refine Subs.cons (Sub.refl _) ?_ | refine Subs.cons (Sub.toDead _) ?_)
  · intro j hj
    exact ⟨by simp, by simp [Ent.below, belows, below, belows_free, below_free, belowsApp, bytesD_free], by simp⟩
  · intro j hj
    refine Z.T hmix ?_
    rcases Nat.lt_or_ge j n with h | h
    · have h1 : (0 : Int) ≤ (n : Int) - j - 1 := by omega
      have h2 : ((n : Int) - j - 1).toNat = n - j - 1 := by omega
      simp only [cast0, eq_self, not_bool, gP_T, gP_F, bne_self_eq_false, bne_iff_ne, bne_eq_false_iff_eq, Bool.false_eq_true, Bool.true_eq_false, false_implies, true_implies, implies_true, not_true_eq_false, not_false_eq_true, beq_self_eq_true, RegZ_nil, RegZ_op, RegZ_opg, RegZ_callF, RegZ_callFg, DrX_zero, DrX_op, DrX_opg, DrX_callF, DrX_callFg, Z_skip, Z_reg, Z_draw, Z_any, Z_seq, Z_cond, Z_block, Z_loop, Z_exit, Z_ret, pin, KO_ap, KZ_normal, KZ_exit, KZ_ret, KS_normal, KS_exit, KS_ret, KB_normal, KB_exit, KB_ret, KM_normal, KM_exit, KM_ret, KI_normal, KI_exit, KI_ret, andT_ite, map_ite, Option.bind_some, Int.reduceLT, Nat.mul_one, Int.toNat_natCast, Int.natCast_nonneg, EndT_normal, EndT_ret, EndT_exit, endX_some, tupD_one, tupD_two, tupD_nil, Nat.lt_add_one, Nat.zero_lt_succ, C.lps, C.isLoop, bsliceD, contents, true_and, and_true, and_self, Bool.or_false, Bool.false_or, Bool.or_true, Bool.true_or, Bool.or_self, gate, evalI, St.ev, St.put, andT_some, List.getD_cons_succ, List.getD_cons_zero, List.cons_append, List.nil_append, List.replicate,
  List.length_cons, List.length_nil, Nat.reduceSub, Nat.reduceAdd, List.set_cons_succ, List.set_cons_zero, List.map_cons, List.map_nil, Option.map_some, Option.map_none, ← binJ_eq, binJ, decide_true, cond_true, cond_false, if_true, if_false,
  decide_eq_true_eq, decide_eq_false_iff_not, lenOfD, Bool.true_and, Bool.and_true, ressD, resD, D.ok, D.cells, one, reduceCtorEq, Nat.reduceEqDiff, Nat.succ_ne_self, Bool.not_true, Bool.not_false, ← wrapF_eq, Int.reduceEq, decide_false, beq_iff_eq, beq_eq_false_iff_ne, ne_eq, Tm.part, List.getElem?_cons_zero, List.getElem?_cons_succ, List.drop_succ_cons, List.drop_zero, List.take_succ_cons, List.take_zero, List.take_nil, List.drop_nil, Nat.zero_add, Nat.add_zero, List.length_map, Nat.le_refl, Nat.reduceLeDiff, Nat.reduceLT, Int.reduceLE, Int.reduceToNat, Nat.reducePow, Int.reducePow, ite_true, ite_false, D.upd, splice, List.append_nil, buildD, bound, sliceD, leaves, h1, h2, bytesD_get (show n - j - 1 < bs.length by omega)]
      have hcons : (bs.take n).drop (n - (j + 1)) = bs[n - j - 1] :: (bs.take n).drop (n - j) := by
        rw [List.drop_eq_getElem_cons (by simp; omega), show n - (j + 1) + 1 = n - j by omega]
        simp only [List.getElem_take]
        rfl
      rw [hcons, leN]
      have hq := leN_lt ((bs.take n).drop (n - j))
      rw [List.length_drop, List.length_take, Nat.min_eq_left hn, show n - (n - j) = j by omega] at hq
      generalize leN ((bs.take n).drop (n - j)) = q at hq ⊢
      have hq7 : q < 256 ^ 7 := Nat.lt_of_lt_of_le hq (Nat.pow_le_pow_right (by decide) (by omega))
      have hb := (bs[n - j - 1]).isLt
      simp only [Nat.reducePow] at hq7
      rw [wrapU64 (n := (q : Int) * 256) (by omega), wrapU64 (n := ((bs[n - j - 1]).toNat : Int)) (by omega), wrapU64 (by omega), wrapI (by omega)]
      rw [show (q : Int) * 256 + ((bs[n - j - 1]).toNat : Int) = (((bs[n - j - 1]).toNat + 256 * q : Nat) : Int) by omega, show (n : Int) - j - 1 - 1 = (n : Int) - ((j + 1 : Nat) : Int) - 1 by omega]
      exact ⟨h, At.same _ _ _ (by repeat (first | exact Subs.refl' _ | refine Subs.cons (Sub.refl _) ?_ | refine Subs.cons (Sub.toDead _) ?_))⟩
    · obtain rfl : j = n := by omega
      have h1 : ¬ (0 : Int) ≤ (j : Int) - j - 1 := by omega
      simp only [cast0, eq_self, not_bool, gP_T, gP_F, bne_self_eq_false, bne_iff_ne, bne_eq_false_iff_eq, Bool.false_eq_true, Bool.true_eq_false, false_implies, true_implies, implies_true, not_true_eq_false, not_false_eq_true, beq_self_eq_true, RegZ_nil, RegZ_op, RegZ_opg, RegZ_callF, RegZ_callFg, DrX_zero, DrX_op, DrX_opg, DrX_callF, DrX_callFg, Z_skip, Z_reg, Z_draw, Z_any, Z_seq, Z_cond, Z_block, Z_loop, Z_exit, Z_ret, pin, KO_ap, KZ_normal, KZ_exit, KZ_ret, KS_normal, KS_exit, KS_ret, KB_normal, KB_exit, KB_ret, KM_normal, KM_exit, KM_ret, KI_normal, KI_exit, KI_ret, andT_ite, map_ite, Option.bind_some, Int.reduceLT, Nat.mul_one, Int.toNat_natCast, Int.natCast_nonneg, EndT_normal, EndT_ret, EndT_exit, endX_some, tupD_one, tupD_two, tupD_nil, Nat.lt_add_one, Nat.zero_lt_succ, C.lps, C.isLoop, bsliceD, contents, true_and, and_true, and_self, Bool.or_false, Bool.false_or, Bool.or_true, Bool.true_or, Bool.or_self, gate, evalI, St.ev, St.put, andT_some, List.getD_cons_succ, List.getD_cons_zero, List.cons_append, List.nil_append, List.replicate,
  List.length_cons, List.length_nil, Nat.reduceSub, Nat.reduceAdd, List.set_cons_succ, List.set_cons_zero, List.map_cons, List.map_nil, Option.map_some, Option.map_none, ← binJ_eq, binJ, decide_true, cond_true, cond_false, if_true, if_false,
  decide_eq_true_eq, decide_eq_false_iff_not, lenOfD, Bool.true_and, Bool.and_true, ressD, resD, D.ok, D.cells, one, reduceCtorEq, Nat.reduceEqDiff, Nat.succ_ne_self, Bool.not_true, Bool.not_false, ← wrapF_eq, Int.reduceEq, decide_false, beq_iff_eq, beq_eq_false_iff_ne, ne_eq, Tm.part, List.getElem?_cons_zero, List.getElem?_cons_succ, List.drop_succ_cons, List.drop_zero, List.take_succ_cons, List.take_zero, List.take_nil, List.drop_nil, Nat.zero_add, Nat.add_zero, List.length_map, Nat.le_refl, Nat.reduceLeDiff, Nat.reduceLT, Int.reduceLE, Int.reduceToNat, Nat.reducePow, Int.reducePow, ite_true, ite_false, D.upd, splice, List.append_nil, buildD, bound, sliceD, leaves, h1]
      exact At.same _ _ _ (by repeat (first | exact Subs.refl' _ | refine Subs.cons (Sub.refl _) ?_ | refine Subs.cons (Sub.toDead _) ?_))
  · simp only [cast0, eq_self, not_bool, gP_T, gP_F, bne_self_eq_false, bne_iff_ne, bne_eq_false_iff_eq, Bool.false_eq_true, Bool.true_eq_false, false_implies, true_implies, implies_true, not_true_eq_false, not_false_eq_true, beq_self_eq_true, RegZ_nil, RegZ_op, RegZ_opg, RegZ_callF, RegZ_callFg, DrX_zero, DrX_op, DrX_opg, DrX_callF, DrX_callFg, Z_skip, Z_reg, Z_draw, Z_any, Z_seq, Z_cond, Z_block, Z_loop, Z_exit, Z_ret, pin, KO_ap, KZ_normal, KZ_exit, KZ_ret, KS_normal, KS_exit, KS_ret, KB_normal, KB_exit, KB_ret, KM_normal, KM_exit, KM_ret, KI_normal, KI_exit, KI_ret, andT_ite, map_ite, Option.bind_some, Int.reduceLT, Nat.mul_one, Int.toNat_natCast, Int.natCast_nonneg, EndT_normal, EndT_ret, EndT_exit, endX_some, tupD_one, tupD_two, tupD_nil, Nat.lt_add_one, Nat.zero_lt_succ, C.lps, C.isLoop, bsliceD, contents, true_and, and_true, and_self, Bool.or_false, Bool.false_or, Bool.or_true, Bool.true_or, Bool.or_self, gate, evalI, St.ev, St.put, andT_some, List.getD_cons_succ, List.getD_cons_zero, List.cons_append, List.nil_append, List.replicate,
  List.length_cons, List.length_nil, Nat.reduceSub, Nat.reduceAdd, List.set_cons_succ, List.set_cons_zero, List.map_cons, List.map_nil, Option.map_some, Option.map_none, ← binJ_eq, binJ, decide_true, cond_true, cond_false, if_true, if_false,
  decide_eq_true_eq, decide_eq_false_iff_not, lenOfD, Bool.true_and, Bool.and_true, ressD, resD, D.ok, D.cells, one, reduceCtorEq, Nat.reduceEqDiff, Nat.succ_ne_self, Bool.not_true, Bool.not_false, ← wrapF_eq, Int.reduceEq, decide_false, beq_iff_eq, beq_eq_false_iff_ne, ne_eq]
    refine Z.T hmix ?_
    simp only [cast0, eq_self, not_bool, gP_T, gP_F, bne_self_eq_false, bne_iff_ne, bne_eq_false_iff_eq, Bool.false_eq_true, Bool.true_eq_false, false_implies, true_implies, implies_true, not_true_eq_false, not_false_eq_true, beq_self_eq_true, RegZ_nil, RegZ_op, RegZ_opg, RegZ_callF, RegZ_callFg, DrX_zero, DrX_op, DrX_opg, DrX_callF, DrX_callFg, Z_skip, Z_reg, Z_draw, Z_any, Z_seq, Z_cond, Z_block, Z_loop, Z_exit, Z_ret, pin, KO_ap, KZ_normal, KZ_exit, KZ_ret, KS_normal, KS_exit, KS_ret, KB_normal, KB_exit, KB_ret, KM_normal, KM_exit, KM_ret, KI_normal, KI_exit, KI_ret, andT_ite, map_ite, Option.bind_some, Int.reduceLT, Nat.mul_one, Int.toNat_natCast, Int.natCast_nonneg, EndT_normal, EndT_ret, EndT_exit, endX_some, tupD_one, tupD_two, tupD_nil, Nat.lt_add_one, Nat.zero_lt_succ, C.lps, C.isLoop, bsliceD, contents, true_and, and_true, and_self, Bool.or_false, Bool.false_or, Bool.or_true, Bool.true_or, Bool.or_self, gate, evalI, St.ev, St.put, andT_some, List.getD_cons_succ, List.getD_cons_zero, List.cons_append, List.nil_append, List.replicate,
  List.length_cons, List.length_nil, Nat.reduceSub, Nat.reduceAdd, List.set_cons_succ, List.set_cons_zero, List.map_cons, List.map_nil, Option.map_some, Option.map_none, ← binJ_eq, binJ, decide_true, cond_true, cond_false, if_true, if_false,
  decide_eq_true_eq, decide_eq_false_iff_not, lenOfD, Bool.true_and, Bool.and_true, ressD, resD, D.ok, D.cells, one, reduceCtorEq, Nat.reduceEqDiff, Nat.succ_ne_self, Bool.not_true, Bool.not_false, ← wrapF_eq, Int.reduceEq, decide_false, beq_iff_eq, beq_eq_false_iff_ne, ne_eq, Tm.part, List.getElem?_cons_zero, List.getElem?_cons_succ, List.drop_succ_cons, List.drop_zero, List.take_succ_cons, List.take_zero, List.take_nil, List.drop_nil, Nat.zero_add, Nat.add_zero, List.length_map, Nat.le_refl, Nat.reduceLeDiff, Nat.reduceLT, Int.reduceLE, Int.reduceToNat, Nat.reducePow, Int.reducePow, ite_true, ite_false, D.upd, splice, List.append_nil, buildD, bound, sliceD, leaves, Nat.sub_self]
end Go.Proofs.Ytjbhgmeokoconaa
