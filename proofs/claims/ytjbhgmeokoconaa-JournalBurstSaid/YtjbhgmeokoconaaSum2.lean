/-
  The program's checksum.
-/
import Derived.Test.YtjbhgmeokoconaaSum
import Derived.Test.YtjbhgmeokoconaaChecked
set_option linter.unusedSimpArgs false
set_option linter.unusedVariables false
namespace Go.Proofs.Ytjbhgmeokoconaa
open Go.Tm
set_option maxRecDepth 10000

theorem bit1_eq (r : BitVec 32) : bit1 r = (r >>> 1) ^^^ (if r.getLsbD 0 then 0xEDB88320#32 else 0#32) := by
  have h0 : r.getLsbD 0 = decide (r.toNat % 2 = 1) := by simp [BitVec.getLsbD, Nat.testBit_zero]
  have h1 : r / 2#32 = r >>> 1 := by
    apply BitVec.eq_of_toNat_eq
    simp [BitVec.toNat_udiv, BitVec.toNat_ushiftRight, Nat.shiftRight_eq_div_pow]
  unfold bit1
  rw [h0, h1]
  by_cases h : r.toNat % 2 = 1 <;> simp [h]

theorem xor4 (x y p : BitVec 32) : x ^^^ y = x ^^^ p ^^^ (y ^^^ p) := by
  rw [BitVec.xor_assoc, ← BitVec.xor_assoc p, BitVec.xor_comm p y, BitVec.xor_assoc y, BitVec.xor_self, BitVec.xor_zero]

theorem bit1_xor (a b : BitVec 32) : bit1 (a ^^^ b) = bit1 a ^^^ bit1 b := by
  simp only [bit1_eq, BitVec.ushiftRight_xor_distrib, BitVec.getLsbD_xor]
  cases a.getLsbD 0 <;> cases b.getLsbD 0 <;> simp <;> first | ac_rfl | exact xor4 _ _ _

theorem bitsN_xor : ∀ (n : Nat) (a b : BitVec 32), bitsN n (a ^^^ b) = bitsN n a ^^^ bitsN n b
  | 0, a, b => rfl
  | n + 1, a, b => by simp only [bitsN, bit1_xor, bitsN_xor n]

theorem bit1_shl (x : BitVec 32) (k : Nat) (h : x.toNat < 2 ^ (31 - k)) (hk : k < 31) : bit1 (x <<< (k + 1)) = x <<< k := by
  rw [bit1_eq]
  have h0 : (x <<< (k + 1)).getLsbD 0 = false := by simp
  rw [h0]
  have hp : 2 ^ (31 - k) * 2 ^ (k + 1) = 2 ^ 32 := by rw [← Nat.pow_add]; congr 1; omega
  have hp' : 2 ^ (31 - k) * 2 ^ k = 2 ^ 31 := by rw [← Nat.pow_add]; congr 1; omega
  have e1 : (x <<< (k + 1)).toNat = x.toNat * 2 ^ (k + 1) := by
    rw [BitVec.toNat_shiftLeft, Nat.shiftLeft_eq, Nat.mod_eq_of_lt]
    calc x.toNat * 2 ^ (k + 1) < 2 ^ (31 - k) * 2 ^ (k + 1) := Nat.mul_lt_mul_of_pos_right h (Nat.two_pow_pos _)
      _ = 2 ^ 32 := hp
  have e2 : (x <<< k).toNat = x.toNat * 2 ^ k := by
    rw [BitVec.toNat_shiftLeft, Nat.shiftLeft_eq, Nat.mod_eq_of_lt]
    calc x.toNat * 2 ^ k < 2 ^ (31 - k) * 2 ^ k := Nat.mul_lt_mul_of_pos_right h (Nat.two_pow_pos _)
      _ = 2 ^ 31 := hp'
      _ < 2 ^ 32 := by decide
  apply BitVec.eq_of_toNat_eq
  simp only [Bool.false_eq_true, if_false, BitVec.xor_zero]
  rw [BitVec.toNat_ushiftRight, e1, e2, Nat.shiftRight_eq_div_pow, Nat.pow_succ, ← Nat.mul_assoc]
  exact Nat.mul_div_cancel _ (by decide)

/-- **Four bits at once.** -/
theorem nib (r : BitVec 32) : nib1 r = bitsN 4 r := by
  have hr : r = ((r >>> 4) <<< 4) ^^^ (r &&& 15#32) := by
    apply BitVec.eq_of_getLsbD_eq
    intro i hi
    simp only [BitVec.getLsbD_xor, BitVec.getLsbD_shiftLeft, BitVec.getLsbD_ushiftRight, BitVec.getLsbD_and]
    by_cases h4 : i < 4
    · have : (15#32).getLsbD i = true := by
        rcases (by omega : i = 0 ∨ i = 1 ∨ i = 2 ∨ i = 3) with rfl | rfl | rfl | rfl <;> rfl
      simp [h4, this]
    · have : (15#32).getLsbD i = false := by
        rw [BitVec.getLsbD_ofNat]
        have : Nat.testBit 15 i = false := Nat.testBit_lt_two_pow (Nat.lt_of_lt_of_le (by decide : 15 < 2 ^ 4) (Nat.pow_le_pow_right (by decide) (by omega)))
        simp [this]
      have h15 : (15#32)[i] = false := by rw [← BitVec.getLsbD_eq_getElem hi]; exact this
      simp [h4, hi, show 4 + (i - 4) = i by omega, h15]
  have hx : (r >>> 4).toNat < 2 ^ 28 := by
    rw [BitVec.toNat_ushiftRight, Nat.shiftRight_eq_div_pow]
    have := r.isLt
    omega
  have hs : bitsN 4 ((r >>> 4) <<< 4) = r >>> 4 := by
    simp only [bitsN]
    rw [bit1_shl _ 3 (by omega) (by decide), bit1_shl _ 2 (by omega) (by decide), bit1_shl _ 1 (by omega) (by decide), bit1_shl _ 0 (by omega) (by decide)]
    simp
  conv => rhs; rw [hr]
  rw [bitsN_xor, hs]
  rfl

theorem bits_add : ∀ (a b : Nat) (r : BitVec 32), bitsN (a + b) r = bitsN b (bitsN a r)
  | 0, b, r => by rw [Nat.zero_add]; rfl
  | a + 1, b, r => by rw [show a + 1 + b = (a + b) + 1 by omega]; exact bits_add a b (bit1 r)

theorem byte_nib (r : BitVec 32) (b : BitVec 8) : byte1 r b = nib1 (nib1 (r ^^^ b.zeroExtend 32)) := by
  rw [nib, nib, ← bits_add]; rfl

theorem and_15 (r : BitVec 32) : bitJ Nat.land .u32 (r.toNat : Int) 15 = .int .u32 ((r &&& 15#32).toNat : Int) := by
  have h1 := r.isLt
  have e1 : ((r.toNat : Int) % modF .u32).toNat = r.toNat := by simp only [modF]; omega
  have e2 : ((15 : Int) % modF .u32).toNat = 15 := by decide
  unfold bitJ
  rw [e1, e2]
  have h3 := (r &&& 15#32).isLt
  have e3 : Nat.land r.toNat 15 = (r &&& 15#32).toNat := by rw [BitVec.toNat_and]; rfl
  rw [e3, wrap32 (by omega)]

theorem not_u32 (r : BitVec 32) : pureRun (Op.unary .xor (.int .u32 (r.toNat : Int))) = some (.int .u32 ((r ^^^ 4294967295#32).toNat : Int)) := by
  have h := xor_u32 4294967295#32 r
  have hb : pureRun (Op.unary .xor (.int .u32 (r.toNat : Int))) = binJ .xor .u32 4294967295 .u32 (r.toNat : Int) := by rw [binJ_eq]; rfl
  rw [hb]
  simp only [binJ, decide_true, cond_true]
  rw [BitVec.xor_comm] at h
  exact congrArg some h

theorem table21 (m : List Ent) : CallT Try.prog 21 [] m fun d m' => d = .agg tableD ∧ m' = m :=
  call_runPK (Checked.mixed Try.checked) tab_ok (fun _ => 0) 400 (by kernel_rfl) m

theorem shr4 (r : BitVec 32) : Int.fdiv (r.toNat : Int) ((2 ^ (min (Int.toNat 4) IntKind.u32.bits) : Nat) : Int) = ((r >>> 4).toNat : Int) := by
  have h : (2 ^ (min (Int.toNat 4) IntKind.u32.bits) : Nat) = 16 := by decide
  rw [h, BitVec.toNat_ushiftRight, Nat.shiftRight_eq_div_pow]
  exact (Int.fdiv_eq_ediv_of_nonneg _ (by decide)).trans (by norm_cast)

theorem lt04 : (4 : Int) < 0 ↔ False := by decide

theorem and_lt (r : BitVec 32) : (r &&& 15#32).toNat < 16 := by
  rw [BitVec.toNat_and]
  exact Nat.lt_of_le_of_lt Nat.and_le_right (by decide)

theorem table_and (r : BitVec 32) : tableD[(r &&& 15#32).toNat]? = some (u32 (bitsN 4 (r &&& 15#32))) := by
  rw [table_get _ (and_lt r), BitVec.ofNat_toNat]
  simp

def S11 (bs : List (BitVec 8)) (p : Nat × BitVec 32) : St := ⟨[.sl 1 (bytesD bs), .dead, i64 0, .ref 0 0 0 0, u32 p.2, .dead, .dead, .dead, .sl 1 (bytesD bs), i64 bs.length, i64 p.1] ++ List.replicate 25 .dead, [.live 16 0 [.agg tableD]]⟩

theorem sum (bs : List (BitVec 8)) (hlen : bs.length < 2 ^ 63) : CallT Try.prog 11 [.sl 1 (bytesD bs)] [] fun d m' => d = i64 (crcRef bs).toNat := by
  refine callT_of k11_ok k11_name (Y.T ?_)
  simp only [k11, k11c, RegX, EndT, tupD, Y, C.loops, Bool.or_false, Bool.false_or, Bool.or_true, Bool.true_or, Bool.or_self, gate, evalI, St.ev, St.put, andT_some, List.getD_cons_succ, List.getD_cons_zero, List.cons_append, List.nil_append, List.replicate,
  List.length_cons, List.length_nil, Nat.reduceSub, Nat.reduceAdd, List.set_cons_succ, List.set_cons_zero, List.map_cons, List.map_nil, Option.map_some, Option.map_none, ← binJ_eq, binJ, decide_true, cond_true, cond_false, if_true, if_false,
  decide_eq_true_eq, decide_eq_false_iff_not, lenOfD, Bool.true_and, Bool.and_true, ressD, resD, D.ok, D.cells, one, reduceCtorEq, Nat.reduceEqDiff, Nat.succ_ne_self, Bool.not_true, Bool.not_false, ← wrapF_eq, Int.reduceEq, decide_false, beq_iff_eq, beq_eq_false_iff_ne, ne_eq]
  refine callX_eq (table21 _) ?_
  simp only [RegX, EndT, tupD, Y, C.loops, Bool.or_false, Bool.false_or, Bool.or_true, Bool.true_or, Bool.or_self, gate, evalI, St.ev, St.put, andT_some, List.getD_cons_succ, List.getD_cons_zero, List.cons_append, List.nil_append, List.replicate,
  List.length_cons, List.length_nil, Nat.reduceSub, Nat.reduceAdd, List.set_cons_succ, List.set_cons_zero, List.map_cons, List.map_nil, Option.map_some, Option.map_none, ← binJ_eq, binJ, decide_true, cond_true, cond_false, if_true, if_false,
  decide_eq_true_eq, decide_eq_false_iff_not, lenOfD, Bool.true_and, Bool.and_true, ressD, resD, D.ok, D.cells, one, reduceCtorEq, Nat.reduceEqDiff, Nat.succ_ne_self, Bool.not_true, Bool.not_false, ← wrapF_eq, Int.reduceEq, decide_false, beq_iff_eq, beq_eq_false_iff_ne, ne_eq, List.getElem?_cons_zero, Option.bind_some, D.cells, show tableD.length = 16 from rfl, and_self, Nat.le_refl, Nat.zero_lt_succ, List.length_cons, D.upd, splice, List.take_zero, List.drop_succ_cons, List.drop_zero, List.drop_nil, List.append_nil]
  refine T.seq (Y.T ?_)
  simp only [RegX, EndT, tupD, Y, C.loops, Bool.or_false, Bool.false_or, Bool.or_true, Bool.true_or, Bool.or_self, gate, evalI, St.ev, St.put, andT_some, List.getD_cons_succ, List.getD_cons_zero, List.cons_append, List.nil_append, List.replicate,
  List.length_cons, List.length_nil, Nat.reduceSub, Nat.reduceAdd, List.set_cons_succ, List.set_cons_zero, List.map_cons, List.map_nil, Option.map_some, Option.map_none, ← binJ_eq, binJ, decide_true, cond_true, cond_false, if_true, if_false,
  decide_eq_true_eq, decide_eq_false_iff_not, lenOfD, Bool.true_and, Bool.and_true, ressD, resD, D.ok, D.cells, one, reduceCtorEq, Nat.reduceEqDiff, Nat.succ_ne_self, Bool.not_true, Bool.not_false, ← wrapF_eq, Int.reduceEq, decide_false, beq_iff_eq, beq_eq_false_iff_ne, ne_eq]
  refine T.blk (S := S11 bs) (good := fun p => p.1 ≤ bs.length ∧ bs.foldl byte1 4294967295#32 = (bs.drop p.1).foldl byte1 p.2) (fin := fun p => bs.foldl byte1 4294967295#32 = p.2) (μ := fun p => bs.length - p.1) (0, 4294967295#32) ⟨Nat.zero_le _, rfl⟩ ?_ rfl ?_ ?_ (fun _ h => h) ?_
  · simp only [S11, u32, i64, bytesD_len, RegX, EndT, tupD, Y, C.loops, Bool.or_false, Bool.false_or, Bool.or_true, Bool.true_or, Bool.or_self, gate, evalI, St.ev, St.put, andT_some, List.getD_cons_succ, List.getD_cons_zero, List.cons_append, List.nil_append, List.replicate,
  List.length_cons, List.length_nil, Nat.reduceSub, Nat.reduceAdd, List.set_cons_succ, List.set_cons_zero, List.map_cons, List.map_nil, Option.map_some, Option.map_none, ← binJ_eq, binJ, decide_true, cond_true, cond_false, if_true, if_false,
  decide_eq_true_eq, decide_eq_false_iff_not, lenOfD, Bool.true_and, Bool.and_true, ressD, resD, D.ok, D.cells, one, reduceCtorEq, Nat.reduceEqDiff, Nat.succ_ne_self, Bool.not_true, Bool.not_false, ← wrapF_eq, Int.reduceEq, decide_false, beq_iff_eq, beq_eq_false_iff_ne, ne_eq]
    repeat (first | exact Subs.refl' _ | refine Subs.cons (Sub.refl _) ?_ | refine Subs.cons (Sub.toDead _) ?_)
  · intro y _
    refine ⟨Nat.zero_le _, ?_, ?_⟩
    · simp [S11, belows, below, u32, i64, belows_free _ _ (bytesD_free bs)]
    · simp [S11, belows, below, Ent.below, belows_free _ _ (show idfrees tableD = true from rfl)]
  · rintro ⟨i, r⟩ ⟨hi, hr⟩
    simp only at hi hr
    refine T.seq (Y.T ?_)
    simp only [S11, u32, i64, RegX, EndT, tupD, Y, C.loops, Bool.or_false, Bool.false_or, Bool.or_true, Bool.true_or, Bool.or_self, gate, evalI, St.ev, St.put, andT_some, List.getD_cons_succ, List.getD_cons_zero, List.cons_append, List.nil_append, List.replicate,
  List.length_cons, List.length_nil, Nat.reduceSub, Nat.reduceAdd, List.set_cons_succ, List.set_cons_zero, List.map_cons, List.map_nil, Option.map_some, Option.map_none, ← binJ_eq, binJ, decide_true, cond_true, cond_false, if_true, if_false,
  decide_eq_true_eq, decide_eq_false_iff_not, lenOfD, Bool.true_and, Bool.and_true, ressD, resD, D.ok, D.cells, one, reduceCtorEq, Nat.reduceEqDiff, Nat.succ_ne_self, Bool.not_true, Bool.not_false, ← wrapF_eq, Int.reduceEq, decide_false, beq_iff_eq, beq_eq_false_iff_ne, ne_eq]
    refine T.seq (T.cond (t := decide ((i : Int) < (bs.length : Int))) rfl (fun h => T.skip ?_) (fun h => T.exit ⟨rfl, (i, r), ?_, ?_, [], rfl⟩))
    · have hlt : i < bs.length := by simp at h; omega
      refine T.seq (T.block (T.seq (Y.T ?_)))
      simp only [RegX, EndT, tupD, Y, C.loops, Bool.or_false, Bool.false_or, Bool.or_true, Bool.true_or, Bool.or_self, gate, evalI, St.ev, St.put, andT_some, List.getD_cons_succ, List.getD_cons_zero, List.cons_append, List.nil_append, List.replicate,
  List.length_cons, List.length_nil, Nat.reduceSub, Nat.reduceAdd, List.set_cons_succ, List.set_cons_zero, List.map_cons, List.map_nil, Option.map_some, Option.map_none, ← binJ_eq, binJ, decide_true, cond_true, cond_false, if_true, if_false,
  decide_eq_true_eq, decide_eq_false_iff_not, lenOfD, Bool.true_and, Bool.and_true, ressD, resD, D.ok, D.cells, one, reduceCtorEq, Nat.reduceEqDiff, Nat.succ_ne_self, Bool.not_true, Bool.not_false, ← wrapF_eq, Int.reduceEq, decide_false, beq_iff_eq, beq_eq_false_iff_ne, ne_eq, Int.toNat_natCast, bytesD_get hlt, Int.natCast_nonneg]
      refine T.seq (Y.T ?_)
      simp only [RegX, EndT, tupD, Y, C.loops, Bool.or_false, Bool.false_or, Bool.or_true, Bool.true_or, Bool.or_self, gate, evalI, St.ev, St.put, andT_some, List.getD_cons_succ, List.getD_cons_zero, List.cons_append, List.nil_append, List.replicate,
  List.length_cons, List.length_nil, Nat.reduceSub, Nat.reduceAdd, List.set_cons_succ, List.set_cons_zero, List.map_cons, List.map_nil, Option.map_some, Option.map_none, ← binJ_eq, binJ, decide_true, cond_true, cond_false, if_true, if_false,
  decide_eq_true_eq, decide_eq_false_iff_not, lenOfD, Bool.true_and, Bool.and_true, ressD, resD, D.ok, D.cells, one, reduceCtorEq, Nat.reduceEqDiff, Nat.succ_ne_self, Bool.not_true, Bool.not_false, ← wrapF_eq, Int.reduceEq, decide_false, beq_iff_eq, beq_eq_false_iff_ne, ne_eq, conv_u32, xor_u32]
      generalize hq : r ^^^ BitVec.zeroExtend 32 bs[i] = q
      refine T.seq (Y.T ?_)
      simp only [RegX, EndT, tupD, Y, C.loops, Bool.or_false, Bool.false_or, Bool.or_true, Bool.true_or, Bool.or_self, gate, evalI, St.ev, St.put, andT_some, List.getD_cons_succ, List.getD_cons_zero, List.cons_append, List.nil_append, List.replicate,
  List.length_cons, List.length_nil, Nat.reduceSub, Nat.reduceAdd, List.set_cons_succ, List.set_cons_zero, List.map_cons, List.map_nil, Option.map_some, Option.map_none, ← binJ_eq, binJ, decide_true, cond_true, cond_false, if_true, if_false,
  decide_eq_true_eq, decide_eq_false_iff_not, lenOfD, Bool.true_and, Bool.and_true, ressD, resD, D.ok, D.cells, one, reduceCtorEq, Nat.reduceEqDiff, Nat.succ_ne_self, Bool.not_true, Bool.not_false, ← wrapF_eq, Int.reduceEq, decide_false, beq_iff_eq, beq_eq_false_iff_ne, ne_eq, lt04, shr4, and_15, Int.natCast_nonneg, Int.toNat_natCast, and_lt, and_self, Nat.zero_add, Nat.mul_one, Tm.part, D.cells, List.getElem?_cons_zero, Option.bind_some, table_and, u32, xor_u32]
      have hn : q >>> 4 ^^^ bitsN 4 (q &&& 15#32) = nib1 q := rfl
      simp only [hn]
      generalize hp : nib1 q = p
      refine Y.T ?_
      simp only [RegX, EndT, tupD, Y, C.loops, Bool.or_false, Bool.false_or, Bool.or_true, Bool.true_or, Bool.or_self, gate, evalI, St.ev, St.put, andT_some, List.getD_cons_succ, List.getD_cons_zero, List.cons_append, List.nil_append, List.replicate,
  List.length_cons, List.length_nil, Nat.reduceSub, Nat.reduceAdd, List.set_cons_succ, List.set_cons_zero, List.map_cons, List.map_nil, Option.map_some, Option.map_none, ← binJ_eq, binJ, decide_true, cond_true, cond_false, if_true, if_false,
  decide_eq_true_eq, decide_eq_false_iff_not, lenOfD, Bool.true_and, Bool.and_true, ressD, resD, D.ok, D.cells, one, reduceCtorEq, Nat.reduceEqDiff, Nat.succ_ne_self, Bool.not_true, Bool.not_false, ← wrapF_eq, Int.reduceEq, decide_false, beq_iff_eq, beq_eq_false_iff_ne, ne_eq, lt04, shr4, and_15, Int.natCast_nonneg, Int.toNat_natCast, and_lt, and_self, Nat.zero_add, Nat.mul_one, Tm.part, D.cells, List.getElem?_cons_zero, Option.bind_some, table_and, u32, xor_u32]
      have hn : p >>> 4 ^^^ bitsN 4 (p &&& 15#32) = nib1 p := rfl
      simp only [hn]
      refine Y.T ?_
      simp only [RegX, EndT, tupD, Y, C.loops, Bool.or_false, Bool.false_or, Bool.or_true, Bool.true_or, Bool.or_self, gate, evalI, St.ev, St.put, andT_some, List.getD_cons_succ, List.getD_cons_zero, List.cons_append, List.nil_append, List.replicate,
  List.length_cons, List.length_nil, Nat.reduceSub, Nat.reduceAdd, List.set_cons_succ, List.set_cons_zero, List.map_cons, List.map_nil, Option.map_some, Option.map_none, ← binJ_eq, binJ, decide_true, cond_true, cond_false, if_true, if_false,
  decide_eq_true_eq, decide_eq_false_iff_not, lenOfD, Bool.true_and, Bool.and_true, ressD, resD, D.ok, D.cells, one, reduceCtorEq, Nat.reduceEqDiff, Nat.succ_ne_self, Bool.not_true, Bool.not_false, ← wrapF_eq, Int.reduceEq, decide_false, beq_iff_eq, beq_eq_false_iff_ne, ne_eq]
      refine ⟨(i + 1, nib1 p), ⟨hlt, ?_⟩, ?_, ?_, [], rfl⟩
      · simp only
        rw [hr, List.drop_eq_getElem_cons hlt, List.foldl_cons, byte_nib, hq, hp]
      · simp only; omega
      · rw [wrap64 (by omega)]
        repeat (first | exact Subs.refl' _ | refine Subs.cons (Sub.refl _) ?_ | refine Subs.cons (Sub.toDead _) ?_)
    · simp only
      have : bs.length ≤ i := by simp at h; omega
      rw [hr, List.drop_eq_nil_of_le this]; rfl
    · repeat (first | exact Subs.refl' _ | refine Subs.cons (Sub.refl _) ?_ | refine Subs.cons (Sub.toDead _) ?_)
  · rintro ⟨i, r⟩ hr
    simp only at hr
    refine Y.T ?_
    simp only [S11, u32, i64, RegX, EndT, tupD, Y, C.loops, Bool.or_false, Bool.false_or, Bool.or_true, Bool.true_or, Bool.or_self, gate, evalI, St.ev, St.put, andT_some, List.getD_cons_succ, List.getD_cons_zero, List.cons_append, List.nil_append, List.replicate,
  List.length_cons, List.length_nil, Nat.reduceSub, Nat.reduceAdd, List.set_cons_succ, List.set_cons_zero, List.map_cons, List.map_nil, Option.map_some, Option.map_none, ← binJ_eq, binJ, decide_true, cond_true, cond_false, if_true, if_false,
  decide_eq_true_eq, decide_eq_false_iff_not, lenOfD, Bool.true_and, Bool.and_true, ressD, resD, D.ok, D.cells, one, reduceCtorEq, Nat.reduceEqDiff, Nat.succ_ne_self, Bool.not_true, Bool.not_false, ← wrapF_eq, Int.reduceEq, decide_false, beq_iff_eq, beq_eq_false_iff_ne, ne_eq, not_u32]
    have hx := (r ^^^ 4294967295#32).isLt
    rw [wrap64 (by omega)]
    refine ⟨_, rfl, ?_⟩
    simp only [crcRef, hr]
end Go.Proofs.Ytjbhgmeokoconaa
