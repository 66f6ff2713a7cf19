/-
  decodeOne: the record at the start of bytes.
-/
import Derived.Test.YtjbhgmeokoconaaFill
set_option linter.unusedSimpArgs false
set_option linter.unusedVariables false
set_option maxHeartbeats 2000000
namespace Go.Proofs.Ytjbhgmeokoconaa
open Go.Tm
set_option maxRecDepth 10000

/-- Word number j of bytes. -/
def wd (bs : List (BitVec 8)) (j : Nat) : Int := sg64 (leN ((bs.drop (8 * j)).take 8))

/-- Is there a complete record at the start, and how many postings has it. -/
structure Good1 (bs : List (BitVec 8)) (k : Nat) : Prop where
  len4 : 4 ≤ bs.length
  n : leN (bs.take 4) = 72 + 32 * k
  k4 : k ≤ 4096
  len : 80 + 32 * k ≤ bs.length
  crc : (crcRef ((bs.drop 4).take (72 + 32 * k))).toNat = leN ((bs.drop (76 + 32 * k)).take 4)
  cnt : wd (bs.drop 4) 8 = (k : Int)

def psl (L : List (BitVec 8)) (j : Nat) : List Ps := (List.range j).map fun i => ⟨wd L (9 + 4 * i), wd L (10 + 4 * i), wd L (11 + 4 * i), wd L (12 + 4 * i)⟩

theorem psl_len (L : List (BitVec 8)) (j : Nat) : (psl L j).length = j := by simp [psl]
theorem psl_succ (L : List (BitVec 8)) (j : Nat) : psl L (j + 1) = psl L j ++ [⟨wd L (9 + 4 * j), wd L (10 + 4 * j), wd L (11 + 4 * j), wd L (12 + 4 * j)⟩] := by
  simp [psl, List.range_succ]
theorem wd_at (L : List (BitVec 8)) (j : Nat) : sg64 (leN (List.take 8 (List.drop (72 + 32 * j) L))) = wd L (9 + 4 * j) ∧ sg64 (leN (List.take 8 (List.drop (72 + 32 * j + 8) L))) = wd L (10 + 4 * j)
    ∧ sg64 (leN (List.take 8 (List.drop (72 + 32 * j + 16) L))) = wd L (11 + 4 * j) ∧ sg64 (leN (List.take 8 (List.drop (72 + 32 * j + 24) L))) = wd L (12 + 4 * j) := by
  unfold wd
  rw [show 8 * (9 + 4 * j) = 72 + 32 * j by omega, show 8 * (10 + 4 * j) = 72 + 32 * j + 8 by omega, show 8 * (11 + 4 * j) = 72 + 32 * j + 16 by omega, show 8 * (12 + 4 * j) = 72 + 32 * j + 24 by omega]
  exact ⟨rfl, rfl, rfl, rfl⟩

/-- The record in a payload. -/
def recOf (pl : List (BitVec 8)) (k : Nat) : Rc :=
  ⟨wd pl 0, wd pl 1, wd pl 2, wd pl 3, wd pl 4, wd pl 5, wd pl 6, wd pl 7, psl pl k⟩

def zeroD : D := .agg [i64 0, i64 0, i64 0, i64 0, i64 0, i64 0, i64 0, i64 0, nilD]
def noR : D := .tup [zeroD, i64 0, .v (.bool false)]
def yesR (bs : List (BitVec 8)) (k : Nat) : D := .tup [rcD (recOf (bs.drop 4) k), i64 (80 + 32 * k : Nat), .v (.bool true)]

theorem bytesD_take (n : Nat) (bs : List (BitVec 8)) : List.take n (bytesD bs) = bytesD (bs.take n) := by simp [bytesD, List.map_take]
theorem bytesD_drop (n : Nat) (bs : List (BitVec 8)) : List.drop n (bytesD bs) = bytesD (bs.drop n) := by simp [bytesD, List.map_drop]
theorem sumP' (bs : List (BitVec 8)) (hlen : bs.length < 2 ^ 63) (m : List Ent) : CallT Try.prog 11 [.sl 1 (bytesD bs)] m fun d m' => d = i64 (crcRef bs).toNat ∧ m' = m :=
  (callP_of (R := fun d => d = i64 (crcRef bs).toNat) 3 (by simp [idfrees, idfree, bytesD_free]) ((sum bs hlen).mono fun d m' h => by rw [h]; rfl) m).mono fun _ _ h => ⟨h.1.1, h.2⟩

theorem wd_lit (L : List (BitVec 8)) : sg64 (leN (List.take 8 L)) = wd L 0 ∧ sg64 (leN (List.take 8 (List.drop 8 L))) = wd L 1 ∧ sg64 (leN (List.take 8 (List.drop 16 L))) = wd L 2 ∧ sg64 (leN (List.take 8 (List.drop 24 L))) = wd L 3
    ∧ sg64 (leN (List.take 8 (List.drop 32 L))) = wd L 4 ∧ sg64 (leN (List.take 8 (List.drop 40 L))) = wd L 5 ∧ sg64 (leN (List.take 8 (List.drop 48 L))) = wd L 6 ∧ sg64 (leN (List.take 8 (List.drop 56 L))) = wd L 7 ∧ sg64 (leN (List.take 8 (List.drop 64 L))) = wd L 8 :=
  ⟨by simp [wd], rfl, rfl, rfl, rfl, rfl, rfl, rfl, rfl⟩

def Dec26 (bs : List (BitVec 8)) (d : D) (m' : List Ent) : Prop := (∃ k, Good1 bs k ∧ froz 5 m' d = yesR bs k) ∨ ((∀ k, ¬ Good1 bs k) ∧ froz 5 m' d = noR)

theorem dec26 (bs : List (BitVec 8)) (hlen : bs.length < 2 ^ 62) : CallT Try.prog 26 [.sl 1 (bytesD bs)] [] (Dec26 bs) := by
  refine callT_of k26_ok k26_name (Z.T hmix ?_)
  simp only [k26, k26c, bytesD_len, Tm.part, List.getElem?_cons_zero, List.getElem?_cons_succ, List.drop_succ_cons, List.drop_zero, List.take_succ_cons, List.take_zero, List.take_nil, List.drop_nil, Nat.zero_add, Nat.add_zero, List.length_map, Nat.le_refl, Nat.reduceLeDiff, Nat.reduceLT, Int.reduceLE, Int.reduceToNat, Nat.reducePow, Int.reducePow, ite_true, ite_false, D.upd, splice, List.append_nil, buildD, bound, sliceD, leaves, cast0, eq_self, not_bool, gP_T, gP_F, bne_self_eq_false, bne_iff_ne, bne_eq_false_iff_eq, Bool.false_eq_true, Bool.true_eq_false, false_implies, true_implies, implies_true, not_true_eq_false, not_false_eq_true, beq_self_eq_true, RegZ_nil, RegZ_op, RegZ_opg, RegZ_callF, RegZ_callFg, DrX_zero, DrX_op, DrX_opg, DrX_callF, DrX_callFg, Z_skip, Z_reg, Z_draw, Z_any, Z_seq, Z_cond, Z_block, Z_loop, Z_exit, Z_ret, pin, KO_ap, KZ_normal, KZ_exit, KZ_ret, KS_normal, KS_exit, KS_ret, KB_normal, KB_exit, KB_ret, KM_normal, KM_exit, KM_ret, KI_normal, KI_exit, KI_ret, andT_ite, map_ite, Option.bind_some, Int.reduceLT, Nat.mul_one, Int.toNat_natCast, Int.natCast_nonneg, EndT_normal, EndT_ret, EndT_exit, endX_some, tupD_one, tupD_two, tupD_nil, Nat.lt_add_one, Nat.zero_lt_succ, C.lps, C.isLoop, bsliceD, contents, true_and, and_true, and_self, Bool.or_false, Bool.false_or, Bool.or_true, Bool.true_or, Bool.or_self, gate, evalI, St.ev, St.put, andT_some, List.getD_cons_succ, List.getD_cons_zero, List.cons_append, List.nil_append, List.replicate,
  List.length_cons, List.length_nil, Nat.reduceSub, Nat.reduceAdd, List.set_cons_succ, List.set_cons_zero, List.map_cons, List.map_nil, Option.map_some, Option.map_none, ← binJ_eq, binJ, decide_true, cond_true, cond_false, if_true, if_false,
  decide_eq_true_eq, decide_eq_false_iff_not, lenOfD, Bool.true_and, Bool.and_true, ressD, resD, D.ok, D.cells, one, reduceCtorEq, Nat.reduceEqDiff, Nat.succ_ne_self, Bool.not_true, Bool.not_false, ← wrapF_eq, Int.reduceEq, decide_false, beq_iff_eq, beq_eq_false_iff_ne, ne_eq]
  refine gP.mk (fun h => ?_) (fun h => ?_)
  · refine .inr ⟨fun k hk => ?_, rfl⟩
    have := hk.len4
    omega
  · refine callX_eq (half30 _ 2 0 bs rfl (by simp [Ent.below, belows, below, belows_free, below_free, belowsApp, bytesD_free]) (by omega)) ?_
    have hn32 := leN_lt (bs.take 4)
    rw [List.length_take, Nat.min_eq_left (by omega)] at hn32
    obtain ⟨n, hn⟩ : ∃ n, leN (bs.take 4) = n := ⟨_, rfl⟩
    rw [hn] at hn32 ⊢
    by_cases hA : ∃ k, n = 72 + 32 * k ∧ k ≤ 4096
    · obtain ⟨k, rfl, hk⟩ := hA
      have e1 : ¬ (((72 + 32 * k : Nat) : Int) < 72) := by omega
      have e2 : wrapF .i64 (((72 + 32 * k : Nat) : Int) - 72) = ((32 * k : Nat) : Int) := by rw [wrapI (by omega)]; omega
      have e3 : Int.tmod ((32 * k : Nat) : Int) 32 = 0 := by rw [Int.tmod_eq_emod_of_nonneg (by omega)]; omega
      have e4 : Int.tdiv ((32 * k : Nat) : Int) 32 = (k : Int) := by rw [Int.tdiv_eq_ediv_of_nonneg (by omega)]; omega
      have e5 : ¬ ((4096 : Int) < (k : Int)) := by omega
      have e6 : wrapF .i64 (k : Int) = (k : Int) := wrapI (by omega)
      have e7 : wrapF .i64 (((72 + 32 * k : Nat) : Int) + 4) = ((76 + 32 * k : Nat) : Int) := by rw [wrapI (by omega)]; omega
      rcases Nat.lt_or_ge (bs.length - 4) (76 + 32 * k) with h2 | h2
      · simp only [cast0, eq_self, not_bool, gP_T, gP_F, bne_self_eq_false, bne_iff_ne, bne_eq_false_iff_eq, Bool.false_eq_true, Bool.true_eq_false, false_implies, true_implies, implies_true, not_true_eq_false, not_false_eq_true, beq_self_eq_true, RegZ_nil, RegZ_op, RegZ_opg, RegZ_callF, RegZ_callFg, DrX_zero, DrX_op, DrX_opg, DrX_callF, DrX_callFg, Z_skip, Z_reg, Z_draw, Z_any, Z_seq, Z_cond, Z_block, Z_loop, Z_exit, Z_ret, pin, KO_ap, KZ_normal, KZ_exit, KZ_ret, KS_normal, KS_exit, KS_ret, KB_normal, KB_exit, KB_ret, KM_normal, KM_exit, KM_ret, KI_normal, KI_exit, KI_ret, andT_ite, map_ite, Option.bind_some, Int.reduceLT, Nat.mul_one, Int.toNat_natCast, Int.natCast_nonneg, EndT_normal, EndT_ret, EndT_exit, endX_some, tupD_one, tupD_two, tupD_nil, Nat.lt_add_one, Nat.zero_lt_succ, C.lps, C.isLoop, bsliceD, contents, true_and, and_true, and_self, Bool.or_false, Bool.false_or, Bool.or_true, Bool.true_or, Bool.or_self, gate, evalI, St.ev, St.put, andT_some, List.getD_cons_succ, List.getD_cons_zero, List.cons_append, List.nil_append, List.replicate,
  List.length_cons, List.length_nil, Nat.reduceSub, Nat.reduceAdd, List.set_cons_succ, List.set_cons_zero, List.map_cons, List.map_nil, Option.map_some, Option.map_none, ← binJ_eq, binJ, decide_true, cond_true, cond_false, if_true, if_false,
  decide_eq_true_eq, decide_eq_false_iff_not, lenOfD, Bool.true_and, Bool.and_true, ressD, resD, D.ok, D.cells, one, reduceCtorEq, Nat.reduceEqDiff, Nat.succ_ne_self, Bool.not_true, Bool.not_false, ← wrapF_eq, Int.reduceEq, decide_false, beq_iff_eq, beq_eq_false_iff_ne, ne_eq, Tm.part, List.getElem?_cons_zero, List.getElem?_cons_succ, List.drop_succ_cons, List.drop_zero, List.take_succ_cons, List.take_zero, List.take_nil, List.drop_nil, Nat.zero_add, Nat.add_zero, List.length_map, Nat.le_refl, Nat.reduceLeDiff, Nat.reduceLT, Int.reduceLE, Int.reduceToNat, Nat.reducePow, Int.reducePow, ite_true, ite_false, D.upd, splice, List.append_nil, buildD, bound, sliceD, leaves, i64, e1, e2, e3, e4, e5, e6, e7, bytesD_len, natlt, List.length_drop, h2]
        refine .inr ⟨fun k' hk' => ?_, rfl⟩
        have h3 := hk'.n
        have h4 := hk'.len
        omega
      · have h2' : ¬ bs.length - 4 < 76 + 32 * k := by omega
        have h3 : 72 + 32 * k ≤ bs.length - 4 := by omega
        have htake : List.take (bs.length - 4 - (72 + 32 * k)) (List.drop (72 + 32 * k) (List.drop 4 bs)) = bs.drop (76 + 32 * k) := by
          rw [List.take_of_length_le (by simp only [List.length_drop]; omega), List.drop_drop, show 4 + (72 + 32 * k) = 76 + 32 * k by omega]
        simp only [cast0, eq_self, not_bool, gP_T, gP_F, bne_self_eq_false, bne_iff_ne, bne_eq_false_iff_eq, Bool.false_eq_true, Bool.true_eq_false, false_implies, true_implies, implies_true, not_true_eq_false, not_false_eq_true, beq_self_eq_true, RegZ_nil, RegZ_op, RegZ_opg, RegZ_callF, RegZ_callFg, DrX_zero, DrX_op, DrX_opg, DrX_callF, DrX_callFg, Z_skip, Z_reg, Z_draw, Z_any, Z_seq, Z_cond, Z_block, Z_loop, Z_exit, Z_ret, pin, KO_ap, KZ_normal, KZ_exit, KZ_ret, KS_normal, KS_exit, KS_ret, KB_normal, KB_exit, KB_ret, KM_normal, KM_exit, KM_ret, KI_normal, KI_exit, KI_ret, andT_ite, map_ite, Option.bind_some, Int.reduceLT, Nat.mul_one, Int.toNat_natCast, Int.natCast_nonneg, EndT_normal, EndT_ret, EndT_exit, endX_some, tupD_one, tupD_two, tupD_nil, Nat.lt_add_one, Nat.zero_lt_succ, C.lps, C.isLoop, bsliceD, contents, true_and, and_true, and_self, Bool.or_false, Bool.false_or, Bool.or_true, Bool.true_or, Bool.or_self, gate, evalI, St.ev, St.put, andT_some, List.getD_cons_succ, List.getD_cons_zero, List.cons_append, List.nil_append, List.replicate,
  List.length_cons, List.length_nil, Nat.reduceSub, Nat.reduceAdd, List.set_cons_succ, List.set_cons_zero, List.map_cons, List.map_nil, Option.map_some, Option.map_none, ← binJ_eq, binJ, decide_true, cond_true, cond_false, if_true, if_false,
  decide_eq_true_eq, decide_eq_false_iff_not, lenOfD, Bool.true_and, Bool.and_true, ressD, resD, D.ok, D.cells, one, reduceCtorEq, Nat.reduceEqDiff, Nat.succ_ne_self, Bool.not_true, Bool.not_false, ← wrapF_eq, Int.reduceEq, decide_false, beq_iff_eq, beq_eq_false_iff_ne, ne_eq, Tm.part, List.getElem?_cons_zero, List.getElem?_cons_succ, List.drop_succ_cons, List.drop_zero, List.take_succ_cons, List.take_zero, List.take_nil, List.drop_nil, Nat.zero_add, Nat.add_zero, List.length_map, Nat.le_refl, Nat.reduceLeDiff, Nat.reduceLT, Int.reduceLE, Int.reduceToNat, Nat.reducePow, Int.reducePow, ite_true, ite_false, D.upd, splice, List.append_nil, buildD, bound, sliceD, leaves, i64, e1, e2, e3, e4, e5, e6, e7, bytesD_len, natlt, List.length_drop, h2', h3, Nat.zero_le, Nat.sub_zero, bytesD_take, bytesD_drop, htake]
        refine callX_eq (sumP' _ (by simp; omega) _) ?_
        simp only [cast0, eq_self, not_bool, gP_T, gP_F, bne_self_eq_false, bne_iff_ne, bne_eq_false_iff_eq, Bool.false_eq_true, Bool.true_eq_false, false_implies, true_implies, implies_true, not_true_eq_false, not_false_eq_true, beq_self_eq_true, RegZ_nil, RegZ_op, RegZ_opg, RegZ_callF, RegZ_callFg, DrX_zero, DrX_op, DrX_opg, DrX_callF, DrX_callFg, Z_skip, Z_reg, Z_draw, Z_any, Z_seq, Z_cond, Z_block, Z_loop, Z_exit, Z_ret, pin, KO_ap, KZ_normal, KZ_exit, KZ_ret, KS_normal, KS_exit, KS_ret, KB_normal, KB_exit, KB_ret, KM_normal, KM_exit, KM_ret, KI_normal, KI_exit, KI_ret, andT_ite, map_ite, Option.bind_some, Int.reduceLT, Nat.mul_one, Int.toNat_natCast, Int.natCast_nonneg, EndT_normal, EndT_ret, EndT_exit, endX_some, tupD_one, tupD_two, tupD_nil, Nat.lt_add_one, Nat.zero_lt_succ, C.lps, C.isLoop, bsliceD, contents, true_and, and_true, and_self, Bool.or_false, Bool.false_or, Bool.or_true, Bool.true_or, Bool.or_self, gate, evalI, St.ev, St.put, andT_some, List.getD_cons_succ, List.getD_cons_zero, List.cons_append, List.nil_append, List.replicate,
  List.length_cons, List.length_nil, Nat.reduceSub, Nat.reduceAdd, List.set_cons_succ, List.set_cons_zero, List.map_cons, List.map_nil, Option.map_some, Option.map_none, ← binJ_eq, binJ, decide_true, cond_true, cond_false, if_true, if_false,
  decide_eq_true_eq, decide_eq_false_iff_not, lenOfD, Bool.true_and, Bool.and_true, ressD, resD, D.ok, D.cells, one, reduceCtorEq, Nat.reduceEqDiff, Nat.succ_ne_self, Bool.not_true, Bool.not_false, ← wrapF_eq, Int.reduceEq, decide_false, beq_iff_eq, beq_eq_false_iff_ne, ne_eq, Tm.part, List.getElem?_cons_zero, List.getElem?_cons_succ, List.drop_succ_cons, List.drop_zero, List.take_succ_cons, List.take_zero, List.take_nil, List.drop_nil, Nat.zero_add, Nat.add_zero, List.length_map, Nat.le_refl, Nat.reduceLeDiff, Nat.reduceLT, Int.reduceLE, Int.reduceToNat, Nat.reducePow, Int.reducePow, ite_true, ite_false, D.upd, splice, List.append_nil, buildD, bound, sliceD, leaves, i64]
        refine callX_eq (half30 _ 3 0 _ rfl (by simp [Ent.below, belows, below, belows_free, below_free, belowsApp, bytesD_free]) (by simp; omega)) ?_
        simp only [cast0, eq_self, not_bool, gP_T, gP_F, bne_self_eq_false, bne_iff_ne, bne_eq_false_iff_eq, Bool.false_eq_true, Bool.true_eq_false, false_implies, true_implies, implies_true, not_true_eq_false, not_false_eq_true, beq_self_eq_true, RegZ_nil, RegZ_op, RegZ_opg, RegZ_callF, RegZ_callFg, DrX_zero, DrX_op, DrX_opg, DrX_callF, DrX_callFg, Z_skip, Z_reg, Z_draw, Z_any, Z_seq, Z_cond, Z_block, Z_loop, Z_exit, Z_ret, pin, KO_ap, KZ_normal, KZ_exit, KZ_ret, KS_normal, KS_exit, KS_ret, KB_normal, KB_exit, KB_ret, KM_normal, KM_exit, KM_ret, KI_normal, KI_exit, KI_ret, andT_ite, map_ite, Option.bind_some, Int.reduceLT, Nat.mul_one, Int.toNat_natCast, Int.natCast_nonneg, EndT_normal, EndT_ret, EndT_exit, endX_some, tupD_one, tupD_two, tupD_nil, Nat.lt_add_one, Nat.zero_lt_succ, C.lps, C.isLoop, bsliceD, contents, true_and, and_true, and_self, Bool.or_false, Bool.false_or, Bool.or_true, Bool.true_or, Bool.or_self, gate, evalI, St.ev, St.put, andT_some, List.getD_cons_succ, List.getD_cons_zero, List.cons_append, List.nil_append, List.replicate,
  List.length_cons, List.length_nil, Nat.reduceSub, Nat.reduceAdd, List.set_cons_succ, List.set_cons_zero, List.map_cons, List.map_nil, Option.map_some, Option.map_none, ← binJ_eq, binJ, decide_true, cond_true, cond_false, if_true, if_false,
  decide_eq_true_eq, decide_eq_false_iff_not, lenOfD, Bool.true_and, Bool.and_true, ressD, resD, D.ok, D.cells, one, reduceCtorEq, Nat.reduceEqDiff, Nat.succ_ne_self, Bool.not_true, Bool.not_false, ← wrapF_eq, Int.reduceEq, decide_false, beq_iff_eq, beq_eq_false_iff_ne, ne_eq, Tm.part, List.getElem?_cons_zero, List.getElem?_cons_succ, List.drop_succ_cons, List.drop_zero, List.take_succ_cons, List.take_zero, List.take_nil, List.drop_nil, Nat.zero_add, Nat.add_zero, List.length_map, Nat.le_refl, Nat.reduceLeDiff, Nat.reduceLT, Int.reduceLE, Int.reduceToNat, Nat.reducePow, Int.reducePow, ite_true, ite_false, D.upd, splice, List.append_nil, buildD, bound, sliceD, leaves, i64]
        refine gP.mk (fun h4 => ?_) (fun h4 => ?_)
        · refine .inr ⟨fun k' hk' => h4 ?_, rfl⟩
          have h5 := hk'.n
          obtain rfl : k' = k := by omega
          rw [hk'.crc]
        · obtain ⟨L, hL⟩ : ∃ L, bs.drop 4 = L := ⟨_, rfl⟩
          rw [hL]
          have hLl : L.length = bs.length - 4 := by rw [← hL]; simp
          obtain ⟨rs, hrs⟩ : ∃ rs : List (Nat × Nat), [(1, 0), (1, 1), (1, 2), (1, 3), (1, 4), (1, 5), (1, 6), (1, 7), (4, 0)] = rs := ⟨_, rfl⟩
          refine callX_eq (fill31 _ 2 5 rs L ?_ (by rw [← hrs]; simp; omega) (by rw [← hrs]; simp)) ?_
          · refine ⟨rfl, by rw [← hrs]; rfl, by decide, by simp [Ent.below, belows, below, belows_free, below_free, belowsApp, bytesD_free], ?_⟩
            intro p hp
            simp only [← hrs, List.mem_cons, List.not_mem_nil, or_false] at hp
            rcases hp with rfl | rfl | rfl | rfl | rfl | rfl | rfl | rfl | rfl <;> first | exact ⟨by decide, by decide, 9, _, rfl, .inl ⟨_, rfl, by decide⟩⟩ | exact ⟨by decide, by decide, 1, _, rfl, .inr ⟨0, rfl, rfl⟩⟩
          · obtain ⟨w0, w1, w2, w3, w4, w5, w6, w7, w8⟩ := wd_lit L
            simp only [← hrs, fillM, setC, rdr, cast0, eq_self, not_bool, gP_T, gP_F, bne_self_eq_false, bne_iff_ne, bne_eq_false_iff_eq, Bool.false_eq_true, Bool.true_eq_false, false_implies, true_implies, implies_true, not_true_eq_false, not_false_eq_true, beq_self_eq_true, RegZ_nil, RegZ_op, RegZ_opg, RegZ_callF, RegZ_callFg, DrX_zero, DrX_op, DrX_opg, DrX_callF, DrX_callFg, Z_skip, Z_reg, Z_draw, Z_any, Z_seq, Z_cond, Z_block, Z_loop, Z_exit, Z_ret, pin, KO_ap, KZ_normal, KZ_exit, KZ_ret, KS_normal, KS_exit, KS_ret, KB_normal, KB_exit, KB_ret, KM_normal, KM_exit, KM_ret, KI_normal, KI_exit, KI_ret, andT_ite, map_ite, Option.bind_some, Int.reduceLT, Nat.mul_one, Int.toNat_natCast, Int.natCast_nonneg, EndT_normal, EndT_ret, EndT_exit, endX_some, tupD_one, tupD_two, tupD_nil, Nat.lt_add_one, Nat.zero_lt_succ, C.lps, C.isLoop, bsliceD, contents, true_and, and_true, and_self, Bool.or_false, Bool.false_or, Bool.or_true, Bool.true_or, Bool.or_self, gate, evalI, St.ev, St.put, andT_some, List.getD_cons_succ, List.getD_cons_zero, List.cons_append, List.nil_append, List.replicate,
  List.length_cons, List.length_nil, Nat.reduceSub, Nat.reduceAdd, List.set_cons_succ, List.set_cons_zero, List.map_cons, List.map_nil, Option.map_some, Option.map_none, ← binJ_eq, binJ, decide_true, cond_true, cond_false, if_true, if_false,
  decide_eq_true_eq, decide_eq_false_iff_not, lenOfD, Bool.true_and, Bool.and_true, ressD, resD, D.ok, D.cells, one, reduceCtorEq, Nat.reduceEqDiff, Nat.succ_ne_self, Bool.not_true, Bool.not_false, ← wrapF_eq, Int.reduceEq, decide_false, beq_iff_eq, beq_eq_false_iff_ne, ne_eq, Tm.part, List.getElem?_cons_zero, List.getElem?_cons_succ, List.drop_succ_cons, List.drop_zero, List.take_succ_cons, List.take_zero, List.take_nil, List.drop_nil, Nat.zero_add, Nat.add_zero, List.length_map, Nat.le_refl, Nat.reduceLeDiff, Nat.reduceLT, Int.reduceLE, Int.reduceToNat, Nat.reducePow, Int.reducePow, ite_true, ite_false, D.upd, splice, List.append_nil, buildD, bound, sliceD, leaves, i64, List.drop_drop, Nat.reduceAdd, List.headD_cons, w0, w1, w2, w3, w4, w5, w6, w7, w8]
            refine gP.mk (fun h5 => ?_) (fun h5 => ?_)
            · refine .inr ⟨fun k' hk' => h5 ?_, rfl⟩
              have h6 := hk'.n
              obtain rfl : k' = k := by omega
              have h7 := hk'.cnt
              rw [hL] at h7
              exact h7
            · refine T.adoptM 4 (Ads.refl _ _) (m' := [.live 9 0 [zeroD], .live 9 0 [.agg [i64 (wd L 0), i64 (wd L 1), i64 (wd L 2), i64 (wd L 3), i64 (wd L 4), i64 (wd L 5), i64 (wd L 6), i64 (wd L 7), .own 6 0]], .live 1 0 [.agg [.sl 1 (bytesD (L.drop 72))]],
                  .live 1 0 [.agg [.sl 1 (bytesD (List.drop (76 + 32 * k + 4) bs))]], .live 1 0 [i64 (wd L 8)], .live 1 0 [.ref 1 0 0 0, .ref 1 0 0 1, .ref 1 0 0 2, .ref 1 0 0 3, .ref 1 0 0 4, .ref 1 0 0 5, .ref 1 0 0 6, .ref 1 0 0 7, .ref 4 0 0 0]]) ?_ ?_
              · refine AdM.cons (AdE.refl _ _) (AdM.cons (AdE.live (Ads.cons (Ad.agg ?_) (Ads.refl _ _))) (AdM.refl _ _))
                exact Ads.cons (Ad.refl _ _) (Ads.cons (Ad.refl _ _) (Ads.cons (Ad.refl _ _) (Ads.cons (Ad.refl _ _) (Ads.cons (Ad.refl _ _) (Ads.cons (Ad.refl _ _) (Ads.cons (Ad.refl _ _) (Ads.cons (Ad.refl _ _) (Ads.cons (Ad.nil _) (Ads.refl _ _)))))))))
              simp only [cast0, eq_self, not_bool, gP_T, gP_F, bne_self_eq_false, bne_iff_ne, bne_eq_false_iff_eq, Bool.false_eq_true, Bool.true_eq_false, false_implies, true_implies, implies_true, not_true_eq_false, not_false_eq_true, beq_self_eq_true, RegZ_nil, RegZ_op, RegZ_opg, RegZ_callF, RegZ_callFg, DrX_zero, DrX_op, DrX_opg, DrX_callF, DrX_callFg, Z_skip, Z_reg, Z_draw, Z_any, Z_seq, Z_cond, Z_block, Z_loop, Z_exit, Z_ret, pin, KO_ap, KZ_normal, KZ_exit, KZ_ret, KS_normal, KS_exit, KS_ret, KB_normal, KB_exit, KB_ret, KM_normal, KM_exit, KM_ret, KI_normal, KI_exit, KI_ret, andT_ite, map_ite, Option.bind_some, Int.reduceLT, Nat.mul_one, Int.toNat_natCast, Int.natCast_nonneg, EndT_normal, EndT_ret, EndT_exit, endX_some, tupD_one, tupD_two, tupD_nil, Nat.lt_add_one, Nat.zero_lt_succ, C.lps, C.isLoop, bsliceD, contents, true_and, and_true, and_self, Bool.or_false, Bool.false_or, Bool.or_true, Bool.true_or, Bool.or_self, gate, evalI, St.ev, St.put, andT_some, List.getD_cons_succ, List.getD_cons_zero, List.cons_append, List.nil_append, List.replicate,
  List.length_cons, List.length_nil, Nat.reduceSub, Nat.reduceAdd, List.set_cons_succ, List.set_cons_zero, List.map_cons, List.map_nil, Option.map_some, Option.map_none, ← binJ_eq, binJ, decide_true, cond_true, cond_false, if_true, if_false,
  decide_eq_true_eq, decide_eq_false_iff_not, lenOfD, Bool.true_and, Bool.and_true, ressD, resD, D.ok, D.cells, one, reduceCtorEq, Nat.reduceEqDiff, Nat.succ_ne_self, Bool.not_true, Bool.not_false, ← wrapF_eq, Int.reduceEq, decide_false, beq_iff_eq, beq_eq_false_iff_ne, ne_eq]
              generalize (List.drop (76 + 32 * k + 4) bs) = L3
              clear w0 w1 w2 w3 w4 w5 w6 w7 w8
              refine T.blkI k (fun j => ⟨[.dead, .dead, .ref 0 0 0 0, .dead, .dead, .ref 1 0 0 0, .ref 2 0 0 0, .v (.int .i64 (72 + 32 * k : Nat)), .dead, .dead, .dead, .dead, .dead, .dead, .dead, .dead, .dead, .dead, .dead, .dead, .dead, .dead, .dead, .dead, .dead, .dead, .dead, .dead, .dead, .dead, .dead, .dead, .dead, .dead, .dead, .dead, .dead, .dead, .dead, .dead, .dead, .dead, .dead, .dead, .dead, .dead, .dead, .dead, .dead, .dead, .dead, .dead, .dead, .dead, .dead, .dead, .dead, .dead, .dead, .dead, .dead, .dead, .dead, .dead, .dead, .dead, .dead, .dead, .dead, .dead, .dead, .dead, .dead, .dead, .dead, .dead, .dead, .dead, .dead, .dead, .dead, .dead, .dead, .dead, .dead, .dead, .dead, .dead, .dead, .dead, .dead, .dead, .dead, .v (.int .i64 k), .v (.int .i64 j), .dead, .dead, .dead, .dead, .dead, .dead, .dead, .dead, .dead, .dead, .dead, .dead, .dead, .dead, .dead, .dead, .dead, .dead, .dead, .dead],
                [.live 9 0 [zeroD], .live 9 0 [.agg [i64 (wd L 0), i64 (wd L 1), i64 (wd L 2), i64 (wd L 3), i64 (wd L 4), i64 (wd L 5), i64 (wd L 6), i64 (wd L 7), .own 6 j]], .live 1 0 [.agg [.sl 1 (bytesD (L.drop (72 + 32 * j)))]],
                  .live 1 0 [.agg [.sl 1 (bytesD L3)]], .live 1 0 [i64 (wd L 8)], .live 1 0 [.ref 1 0 0 0, .ref 1 0 0 1, .ref 1 0 0 2, .ref 1 0 0 3, .ref 1 0 0 4, .ref 1 0 0 5, .ref 1 0 0 6, .ref 1 0 0 7, .ref 4 0 0 0],
                  .live 4 j ((psl L j).map psD)]⟩) ?_ ?_ ?_ (by repeat (first | exact stab_S | exact stab_C | exact stab_I | exact stab_M | refine stab_B ?_)) ?_
              · exact At.same _ _ _ (by repeat (first | exact Subs.refl' _ | refine Subs.cons (Sub.refl _) ?_ | refine Subs.cons (Sub.toDead _) ?_))
              · intro j hj
                exact ⟨by simp, by simp [belows, below], by simp [Ent.below, belows, below, belows_free, bytesD_free, pss_free, i64, zeroD, nilD]⟩
              · intro j hj
                refine Z.T hmix ?_
                rcases Nat.lt_or_ge j k with hjk | hjk
                · simp only [cast0, eq_self, not_bool, gP_T, gP_F, bne_self_eq_false, bne_iff_ne, bne_eq_false_iff_eq, Bool.false_eq_true, Bool.true_eq_false, false_implies, true_implies, implies_true, not_true_eq_false, not_false_eq_true, beq_self_eq_true, RegZ_nil, RegZ_op, RegZ_opg, RegZ_callF, RegZ_callFg, DrX_zero, DrX_op, DrX_opg, DrX_callF, DrX_callFg, Z_skip, Z_reg, Z_draw, Z_any, Z_seq, Z_cond, Z_block, Z_loop, Z_exit, Z_ret, pin, KO_ap, KZ_normal, KZ_exit, KZ_ret, KS_normal, KS_exit, KS_ret, KB_normal, KB_exit, KB_ret, KM_normal, KM_exit, KM_ret, KI_normal, KI_exit, KI_ret, andT_ite, map_ite, Option.bind_some, Int.reduceLT, Nat.mul_one, Int.toNat_natCast, Int.natCast_nonneg, EndT_normal, EndT_ret, EndT_exit, endX_some, tupD_one, tupD_two, tupD_nil, Nat.lt_add_one, Nat.zero_lt_succ, C.lps, C.isLoop, bsliceD, contents, true_and, and_true, and_self, Bool.or_false, Bool.false_or, Bool.or_true, Bool.true_or, Bool.or_self, gate, evalI, St.ev, St.put, andT_some, List.getD_cons_succ, List.getD_cons_zero, List.cons_append, List.nil_append, List.replicate,
  List.length_cons, List.length_nil, Nat.reduceSub, Nat.reduceAdd, List.set_cons_succ, List.set_cons_zero, List.map_cons, List.map_nil, Option.map_some, Option.map_none, ← binJ_eq, binJ, decide_true, cond_true, cond_false, if_true, if_false,
  decide_eq_true_eq, decide_eq_false_iff_not, lenOfD, Bool.true_and, Bool.and_true, ressD, resD, D.ok, D.cells, one, reduceCtorEq, Nat.reduceEqDiff, Nat.succ_ne_self, Bool.not_true, Bool.not_false, ← wrapF_eq, Int.reduceEq, decide_false, beq_iff_eq, beq_eq_false_iff_ne, ne_eq, Tm.part, List.getElem?_cons_zero, List.getElem?_cons_succ, List.drop_succ_cons, List.drop_zero, List.take_succ_cons, List.take_zero, List.take_nil, List.drop_nil, Nat.zero_add, Nat.add_zero, List.length_map, Nat.le_refl, Nat.reduceLeDiff, Nat.reduceLT, Int.reduceLE, Int.reduceToNat, Nat.reducePow, Int.reducePow, ite_true, ite_false, D.upd, splice, List.append_nil, buildD, bound, sliceD, leaves, natlt, hjk, i64]
                  obtain ⟨rs4, hrs4⟩ : ∃ rs : List (Nat × Nat), [(7, 0), (7, 1), (7, 2), (7, 3)] = rs := ⟨_, rfl⟩
                  refine callX_eq (fill31 _ 2 8 rs4 (L.drop (72 + 32 * j)) ?_ (by rw [← hrs4]; simp only [List.length_cons, List.length_nil, List.length_drop]; omega) (by rw [← hrs4]; simp)) ?_
                  · refine ⟨rfl, by rw [← hrs4]; rfl, by decide, by simp [Ent.below, belows, below, belows_free, bytesD_free, pss_free, zeroD, i64, nilD], ?_⟩
                    intro p hp
                    simp only [← hrs4, List.mem_cons, List.not_mem_nil, or_false] at hp
                    rcases hp with rfl | rfl | rfl | rfl <;> exact ⟨by decide, by decide, 4, _, rfl, .inl ⟨_, rfl, by decide⟩⟩
                  · obtain ⟨x0, x1, x2, x3⟩ := wd_at L j
                    simp only [← hrs4, fillM, setC, rdr, cast0, eq_self, not_bool, gP_T, gP_F, bne_self_eq_false, bne_iff_ne, bne_eq_false_iff_eq, Bool.false_eq_true, Bool.true_eq_false, false_implies, true_implies, implies_true, not_true_eq_false, not_false_eq_true, beq_self_eq_true, RegZ_nil, RegZ_op, RegZ_opg, RegZ_callF, RegZ_callFg, DrX_zero, DrX_op, DrX_opg, DrX_callF, DrX_callFg, Z_skip, Z_reg, Z_draw, Z_any, Z_seq, Z_cond, Z_block, Z_loop, Z_exit, Z_ret, pin, KO_ap, KZ_normal, KZ_exit, KZ_ret, KS_normal, KS_exit, KS_ret, KB_normal, KB_exit, KB_ret, KM_normal, KM_exit, KM_ret, KI_normal, KI_exit, KI_ret, andT_ite, map_ite, Option.bind_some, Int.reduceLT, Nat.mul_one, Int.toNat_natCast, Int.natCast_nonneg, EndT_normal, EndT_ret, EndT_exit, endX_some, tupD_one, tupD_two, tupD_nil, Nat.lt_add_one, Nat.zero_lt_succ, C.lps, C.isLoop, bsliceD, contents, true_and, and_true, and_self, Bool.or_false, Bool.false_or, Bool.or_true, Bool.true_or, Bool.or_self, gate, evalI, St.ev, St.put, andT_some, List.getD_cons_succ, List.getD_cons_zero, List.cons_append, List.nil_append, List.replicate,
  List.length_cons, List.length_nil, Nat.reduceSub, Nat.reduceAdd, List.set_cons_succ, List.set_cons_zero, List.map_cons, List.map_nil, Option.map_some, Option.map_none, ← binJ_eq, binJ, decide_true, cond_true, cond_false, if_true, if_false,
  decide_eq_true_eq, decide_eq_false_iff_not, lenOfD, Bool.true_and, Bool.and_true, ressD, resD, D.ok, D.cells, one, reduceCtorEq, Nat.reduceEqDiff, Nat.succ_ne_self, Bool.not_true, Bool.not_false, ← wrapF_eq, Int.reduceEq, decide_false, beq_iff_eq, beq_eq_false_iff_ne, ne_eq, Tm.part, List.getElem?_cons_zero, List.getElem?_cons_succ, List.drop_succ_cons, List.drop_zero, List.take_succ_cons, List.take_zero, List.take_nil, List.drop_nil, Nat.zero_add, Nat.add_zero, List.length_map, Nat.le_refl, Nat.reduceLeDiff, Nat.reduceLT, Int.reduceLE, Int.reduceToNat, Nat.reducePow, Int.reducePow, ite_true, ite_false, D.upd, splice, List.append_nil, buildD, bound, sliceD, leaves, i64, List.drop_drop, Nat.reduceAdd, Nat.add_assoc, wrapSu j (by omega), hjk, psl_len] at x0 x1 x2 x3 ⊢
                    simp only [x0, x1, x2, x3]
                    refine ⟨by omega, ?_⟩
                    refine At.cut 7 (by repeat (first | exact Subs.refl' _ | refine Subs.cons (Sub.refl _) ?_ | refine Subs.cons (Sub.toDead _) ?_)) ?_
                    simp only [psl_succ, List.map_append, List.map_cons, List.map_nil]
                    rw [show 72 + (32 * j + 32) = 72 + 32 * (j + 1) by omega]
                    rfl
                · obtain rfl : j = k := by omega
                  simp only [cast0, eq_self, not_bool, gP_T, gP_F, bne_self_eq_false, bne_iff_ne, bne_eq_false_iff_eq, Bool.false_eq_true, Bool.true_eq_false, false_implies, true_implies, implies_true, not_true_eq_false, not_false_eq_true, beq_self_eq_true, RegZ_nil, RegZ_op, RegZ_opg, RegZ_callF, RegZ_callFg, DrX_zero, DrX_op, DrX_opg, DrX_callF, DrX_callFg, Z_skip, Z_reg, Z_draw, Z_any, Z_seq, Z_cond, Z_block, Z_loop, Z_exit, Z_ret, pin, KO_ap, KZ_normal, KZ_exit, KZ_ret, KS_normal, KS_exit, KS_ret, KB_normal, KB_exit, KB_ret, KM_normal, KM_exit, KM_ret, KI_normal, KI_exit, KI_ret, andT_ite, map_ite, Option.bind_some, Int.reduceLT, Nat.mul_one, Int.toNat_natCast, Int.natCast_nonneg, EndT_normal, EndT_ret, EndT_exit, endX_some, tupD_one, tupD_two, tupD_nil, Nat.lt_add_one, Nat.zero_lt_succ, C.lps, C.isLoop, bsliceD, contents, true_and, and_true, and_self, Bool.or_false, Bool.false_or, Bool.or_true, Bool.true_or, Bool.or_self, gate, evalI, St.ev, St.put, andT_some, List.getD_cons_succ, List.getD_cons_zero, List.cons_append, List.nil_append, List.replicate,
  List.length_cons, List.length_nil, Nat.reduceSub, Nat.reduceAdd, List.set_cons_succ, List.set_cons_zero, List.map_cons, List.map_nil, Option.map_some, Option.map_none, ← binJ_eq, binJ, decide_true, cond_true, cond_false, if_true, if_false,
  decide_eq_true_eq, decide_eq_false_iff_not, lenOfD, Bool.true_and, Bool.and_true, ressD, resD, D.ok, D.cells, one, reduceCtorEq, Nat.reduceEqDiff, Nat.succ_ne_self, Bool.not_true, Bool.not_false, ← wrapF_eq, Int.reduceEq, decide_false, beq_iff_eq, beq_eq_false_iff_ne, ne_eq, Tm.part, List.getElem?_cons_zero, List.getElem?_cons_succ, List.drop_succ_cons, List.drop_zero, List.take_succ_cons, List.take_zero, List.take_nil, List.drop_nil, Nat.zero_add, Nat.add_zero, List.length_map, Nat.le_refl, Nat.reduceLeDiff, Nat.reduceLT, Int.reduceLE, Int.reduceToNat, Nat.reducePow, Int.reducePow, ite_true, ite_false, D.upd, splice, List.append_nil, buildD, bound, sliceD, leaves, natlt, Nat.lt_irrefl]
                  exact At.same _ _ _ (by repeat (first | exact Subs.refl' _ | refine Subs.cons (Sub.refl _) ?_ | refine Subs.cons (Sub.toDead _) ?_))
              · simp only [cast0, eq_self, not_bool, gP_T, gP_F, bne_self_eq_false, bne_iff_ne, bne_eq_false_iff_eq, Bool.false_eq_true, Bool.true_eq_false, false_implies, true_implies, implies_true, not_true_eq_false, not_false_eq_true, beq_self_eq_true, RegZ_nil, RegZ_op, RegZ_opg, RegZ_callF, RegZ_callFg, DrX_zero, DrX_op, DrX_opg, DrX_callF, DrX_callFg, Z_skip, Z_reg, Z_draw, Z_any, Z_seq, Z_cond, Z_block, Z_loop, Z_exit, Z_ret, pin, KO_ap, KZ_normal, KZ_exit, KZ_ret, KS_normal, KS_exit, KS_ret, KB_normal, KB_exit, KB_ret, KM_normal, KM_exit, KM_ret, KI_normal, KI_exit, KI_ret, andT_ite, map_ite, Option.bind_some, Int.reduceLT, Nat.mul_one, Int.toNat_natCast, Int.natCast_nonneg, EndT_normal, EndT_ret, EndT_exit, endX_some, tupD_one, tupD_two, tupD_nil, Nat.lt_add_one, Nat.zero_lt_succ, C.lps, C.isLoop, bsliceD, contents, true_and, and_true, and_self, Bool.or_false, Bool.false_or, Bool.or_true, Bool.true_or, Bool.or_self, gate, evalI, St.ev, St.put, andT_some, List.getD_cons_succ, List.getD_cons_zero, List.cons_append, List.nil_append, List.replicate,
  List.length_cons, List.length_nil, Nat.reduceSub, Nat.reduceAdd, List.set_cons_succ, List.set_cons_zero, List.map_cons, List.map_nil, Option.map_some, Option.map_none, ← binJ_eq, binJ, decide_true, cond_true, cond_false, if_true, if_false,
  decide_eq_true_eq, decide_eq_false_iff_not, lenOfD, Bool.true_and, Bool.and_true, ressD, resD, D.ok, D.cells, one, reduceCtorEq, Nat.reduceEqDiff, Nat.succ_ne_self, Bool.not_true, Bool.not_false, ← wrapF_eq, Int.reduceEq, decide_false, beq_iff_eq, beq_eq_false_iff_ne, ne_eq]
                refine Z.T hmix ?_
                simp only [cast0, eq_self, not_bool, gP_T, gP_F, bne_self_eq_false, bne_iff_ne, bne_eq_false_iff_eq, Bool.false_eq_true, Bool.true_eq_false, false_implies, true_implies, implies_true, not_true_eq_false, not_false_eq_true, beq_self_eq_true, RegZ_nil, RegZ_op, RegZ_opg, RegZ_callF, RegZ_callFg, DrX_zero, DrX_op, DrX_opg, DrX_callF, DrX_callFg, Z_skip, Z_reg, Z_draw, Z_any, Z_seq, Z_cond, Z_block, Z_loop, Z_exit, Z_ret, pin, KO_ap, KZ_normal, KZ_exit, KZ_ret, KS_normal, KS_exit, KS_ret, KB_normal, KB_exit, KB_ret, KM_normal, KM_exit, KM_ret, KI_normal, KI_exit, KI_ret, andT_ite, map_ite, Option.bind_some, Int.reduceLT, Nat.mul_one, Int.toNat_natCast, Int.natCast_nonneg, EndT_normal, EndT_ret, EndT_exit, endX_some, tupD_one, tupD_two, tupD_nil, Nat.lt_add_one, Nat.zero_lt_succ, C.lps, C.isLoop, bsliceD, contents, true_and, and_true, and_self, Bool.or_false, Bool.false_or, Bool.or_true, Bool.true_or, Bool.or_self, gate, evalI, St.ev, St.put, andT_some, List.getD_cons_succ, List.getD_cons_zero, List.cons_append, List.nil_append, List.replicate,
  List.length_cons, List.length_nil, Nat.reduceSub, Nat.reduceAdd, List.set_cons_succ, List.set_cons_zero, List.map_cons, List.map_nil, Option.map_some, Option.map_none, ← binJ_eq, binJ, decide_true, cond_true, cond_false, if_true, if_false,
  decide_eq_true_eq, decide_eq_false_iff_not, lenOfD, Bool.true_and, Bool.and_true, ressD, resD, D.ok, D.cells, one, reduceCtorEq, Nat.reduceEqDiff, Nat.succ_ne_self, Bool.not_true, Bool.not_false, ← wrapF_eq, Int.reduceEq, decide_false, beq_iff_eq, beq_eq_false_iff_ne, ne_eq, Tm.part, List.getElem?_cons_zero, List.getElem?_cons_succ, List.drop_succ_cons, List.drop_zero, List.take_succ_cons, List.take_zero, List.take_nil, List.drop_nil, Nat.zero_add, Nat.add_zero, List.length_map, Nat.le_refl, Nat.reduceLeDiff, Nat.reduceLT, Int.reduceLE, Int.reduceToNat, Nat.reducePow, Int.reducePow, ite_true, ite_false, D.upd, splice, List.append_nil, buildD, bound, sliceD, leaves, i64, zeroD, nilD]
                refine .inl ⟨k, ⟨by omega, hn, hk, by omega, ?_, by rw [hL]; exact Classical.not_not.1 h5⟩, ?_⟩
                · have h9 := Classical.not_not.1 h4
                  rw [hL] at h9 ⊢
                  exact Int.ofNat.inj h9
                · rw [wrapI (n := (4 : Int) + ((72 + 32 * k : Nat) : Int)) (by omega), wrapI (by omega), yesR, hL]
                  simp only [froz_tup, froz_agg, froz_v, List.map_cons, List.map_nil]
                  rw [froz_own rfl (pss_free _), show (4 : Int) + ((72 + 32 * k : Nat) : Int) + 4 = ((80 + 32 * k : Nat) : Int) by omega]
                  rfl
    · simp only [cast0, eq_self, not_bool, gP_T, gP_F, bne_self_eq_false, bne_iff_ne, bne_eq_false_iff_eq, Bool.false_eq_true, Bool.true_eq_false, false_implies, true_implies, implies_true, not_true_eq_false, not_false_eq_true, beq_self_eq_true, RegZ_nil, RegZ_op, RegZ_opg, RegZ_callF, RegZ_callFg, DrX_zero, DrX_op, DrX_opg, DrX_callF, DrX_callFg, Z_skip, Z_reg, Z_draw, Z_any, Z_seq, Z_cond, Z_block, Z_loop, Z_exit, Z_ret, pin, KO_ap, KZ_normal, KZ_exit, KZ_ret, KS_normal, KS_exit, KS_ret, KB_normal, KB_exit, KB_ret, KM_normal, KM_exit, KM_ret, KI_normal, KI_exit, KI_ret, andT_ite, map_ite, Option.bind_some, Int.reduceLT, Nat.mul_one, Int.toNat_natCast, Int.natCast_nonneg, EndT_normal, EndT_ret, EndT_exit, endX_some, tupD_one, tupD_two, tupD_nil, Nat.lt_add_one, Nat.zero_lt_succ, C.lps, C.isLoop, bsliceD, contents, true_and, and_true, and_self, Bool.or_false, Bool.false_or, Bool.or_true, Bool.true_or, Bool.or_self, gate, evalI, St.ev, St.put, andT_some, List.getD_cons_succ, List.getD_cons_zero, List.cons_append, List.nil_append, List.replicate,
  List.length_cons, List.length_nil, Nat.reduceSub, Nat.reduceAdd, List.set_cons_succ, List.set_cons_zero, List.map_cons, List.map_nil, Option.map_some, Option.map_none, ← binJ_eq, binJ, decide_true, cond_true, cond_false, if_true, if_false,
  decide_eq_true_eq, decide_eq_false_iff_not, lenOfD, Bool.true_and, Bool.and_true, ressD, resD, D.ok, D.cells, one, reduceCtorEq, Nat.reduceEqDiff, Nat.succ_ne_self, Bool.not_true, Bool.not_false, ← wrapF_eq, Int.reduceEq, decide_false, beq_iff_eq, beq_eq_false_iff_ne, ne_eq, Tm.part, List.getElem?_cons_zero, List.getElem?_cons_succ, List.drop_succ_cons, List.drop_zero, List.take_succ_cons, List.take_zero, List.take_nil, List.drop_nil, Nat.zero_add, Nat.add_zero, List.length_map, Nat.le_refl, Nat.reduceLeDiff, Nat.reduceLT, Int.reduceLE, Int.reduceToNat, Nat.reducePow, Int.reducePow, ite_true, ite_false, D.upd, splice, List.append_nil, buildD, bound, sliceD, leaves, i64]
      have none' : ∀ m', froz 5 m' (.tup [zeroD, i64 0, .v (.bool false)]) = noR → Dec26 bs (.tup [zeroD, i64 0, .v (.bool false)]) m' := fun m' h' => .inr ⟨fun k hk => hA ⟨k, by rw [← hn]; exact hk.n, hk.k4⟩, h'⟩
      refine gP.mk (fun h1 => gP.mk (fun h2 => gP.mk (fun h3 => none' _ rfl) (fun h3 => ?_)) (fun h2 => none' _ rfl)) (fun h1 => none' _ rfl)
      exfalso
      rw [wrapI (n := (n : Int) - 72) (by omega)] at h2 h3
      rw [Int.tmod_eq_emod_of_nonneg (by omega)] at h2
      rw [Int.tdiv_eq_ediv_of_nonneg (by omega), wrapI (by omega)] at h3
      exact hA ⟨(n - 72) / 32, by omega, by omega⟩
end Go.Proofs.Ytjbhgmeokoconaa
