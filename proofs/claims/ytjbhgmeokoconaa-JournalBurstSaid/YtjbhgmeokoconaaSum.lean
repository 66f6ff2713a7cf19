/-
  The two checksums: what they compute.
-/
import Derived.Test.YtjbhgmeokoconaaCode
import Derived.Test.YtjbhgmeokoconaaTmP
set_option linter.unusedSimpArgs false
set_option linter.unusedVariables false
namespace Go.Proofs.Ytjbhgmeokoconaa
open Go.Tm
set_option maxRecDepth 10000

/-- One bit of the checksum. -/
def bit1 (r : BitVec 32) : BitVec 32 := if r.toNat % 2 = 1 then (r / 2#32) ^^^ 0xEDB88320#32 else r / 2#32

def bitsN : Nat → BitVec 32 → BitVec 32
  | 0, r => r
  | n + 1, r => bitsN n (bit1 r)

def byte1 (r : BitVec 32) (b : BitVec 8) : BitVec 32 := bitsN 8 (r ^^^ b.zeroExtend 32)

def crcRef (bs : List (BitVec 8)) : BitVec 32 := bs.foldl byte1 4294967295#32 ^^^ 4294967295#32

def bytesD (bs : List (BitVec 8)) : List D := bs.map fun b => .v (.int .u8 (b.toNat : Int))
def u32 (r : BitVec 32) : D := .v (.int .u32 (r.toNat : Int))
def i64 (n : Int) : D := .v (.int .i64 n)

theorem wrap64 {n : Int} (h : -9223372036854775808 ≤ n ∧ n ≤ 9223372036854775807) : wrapF .i64 n = n := by
  rw [wrapF_eq, IntKind.wrap_i64]; omega

theorem wrap32 {n : Int} (h : 0 ≤ n ∧ n ≤ 4294967295) : wrapF .u32 n = n := by
  simp only [wrapF]; omega

theorem xor_u32 (r q : BitVec 32) : bitJ Nat.xor .u32 (r.toNat : Int) (q.toNat : Int) = .int .u32 ((r ^^^ q).toNat : Int) := by
  have h1 := r.isLt
  have h2 := q.isLt
  have e1 : ((r.toNat : Int) % modF .u32).toNat = r.toNat := by simp only [modF]; omega
  have e2 : ((q.toNat : Int) % modF .u32).toNat = q.toNat := by simp only [modF]; omega
  unfold bitJ
  rw [e1, e2]
  have h3 := (r ^^^ q).isLt
  have e3 : Nat.xor r.toNat q.toNat = (r ^^^ q).toNat := by rw [BitVec.toNat_xor]; rfl
  rw [e3, wrap32 (by omega)]

theorem xor_poly (r : BitVec 32) : bitJ Nat.xor .u32 (r.toNat : Int) 3988292384 = .int .u32 ((r ^^^ 0xEDB88320#32).toNat : Int) := xor_u32 r 0xEDB88320#32
theorem xor_ones (r : BitVec 32) : bitJ Nat.xor .u32 (r.toNat : Int) 4294967295 = .int .u32 ((r ^^^ 4294967295#32).toNat : Int) := xor_u32 r 4294967295#32

theorem half_u32 (r : BitVec 32) : wrapF .u32 (Int.tdiv (r.toNat : Int) 2) = ((r / 2#32).toNat : Int) := by
  have h1 := r.isLt
  have h2 : Int.tdiv (r.toNat : Int) 2 = ((r.toNat / 2 : Nat) : Int) := by rfl
  rw [h2, wrap32 (by omega)]
  simp [BitVec.toNat_udiv]

theorem conv_u32 (b : BitVec 8) : wrapF .u32 (b.toNat : Int) = ((b.zeroExtend 32 : BitVec 32).toNat : Int) := by
  have h1 := b.isLt
  rw [wrap32 (by omega)]
  simp
  omega

theorem rem_u32 (r : BitVec 32) : Int.tmod (r.toNat : Int) 2 = ((r.toNat % 2 : Nat) : Int) := rfl

theorem bytesD_get {bs : List (BitVec 8)} {i : Nat} (h : i < bs.length) : (bytesD bs)[i]? = some (.v (.int .u8 (bs[i].toNat : Int))) := by
  simp [bytesD, h]

theorem bytesD_len (bs : List (BitVec 8)) : (bytesD bs).length = bs.length := by simp [bytesD]

theorem bytesD_free : ∀ bs : List (BitVec 8), idfrees (bytesD bs) = true
  | [] => rfl
  | b :: bs => by simp [bytesD, idfrees, idfree]; exact bytesD_free bs

theorem bytesD_free' (bs : List (BitVec 8)) : idfrees (bs.map fun b => D.v (.int .u8 (b.toNat : Int))) = true := bytesD_free bs

def S12 (bs : List (BitVec 8)) (i : Nat) (p : Nat × BitVec 32) : St := ⟨[.sl 1 (bytesD bs), .dead, i64 0, u32 p.2, i64 i, i64 p.1] ++ List.replicate 28 .dead, []⟩
def S12o (bs : List (BitVec 8)) (p : Nat × BitVec 32) : St := ⟨[.sl 1 (bytesD bs), .dead, i64 0, u32 p.2, i64 p.1] ++ List.replicate 29 .dead, []⟩

theorem refSum (bs : List (BitVec 8)) (hlen : bs.length < 2 ^ 63) : CallT Try.prog 12 [.sl 1 (bytesD bs)] [] fun d m' => d = i64 (crcRef bs).toNat := by
  refine callT_of k12_ok k12_name (Y.T ?_)
  simp only [k12, k12c, RegX, EndT, tupD, Y, C.loops, Bool.or_false, Bool.false_or, Bool.or_true, Bool.true_or, Bool.or_self, gate, evalI, St.ev, St.put, andT_some, List.getD_cons_succ, List.getD_cons_zero, List.cons_append, List.nil_append, List.replicate,
  List.length_cons, List.length_nil, Nat.reduceSub, Nat.reduceAdd, List.set_cons_succ, List.set_cons_zero, List.map_cons, List.map_nil, Option.map_some, Option.map_none, ← binJ_eq, binJ, decide_true, cond_true, cond_false, if_true, if_false,
  decide_eq_true_eq, decide_eq_false_iff_not, lenOfD, Bool.true_and, Bool.and_true, ressD, resD, D.ok, D.cells, one, reduceCtorEq, Nat.reduceEqDiff, Nat.succ_ne_self, Bool.not_true, Bool.not_false, ← wrapF_eq, Int.reduceEq, decide_false, beq_iff_eq, beq_eq_false_iff_ne, ne_eq]
  refine T.seq (Y.T ?_)
  simp only [RegX, EndT, tupD, Y, C.loops, Bool.or_false, Bool.false_or, Bool.or_true, Bool.true_or, Bool.or_self, gate, evalI, St.ev, St.put, andT_some, List.getD_cons_succ, List.getD_cons_zero, List.cons_append, List.nil_append, List.replicate,
  List.length_cons, List.length_nil, Nat.reduceSub, Nat.reduceAdd, List.set_cons_succ, List.set_cons_zero, List.map_cons, List.map_nil, Option.map_some, Option.map_none, ← binJ_eq, binJ, decide_true, cond_true, cond_false, if_true, if_false,
  decide_eq_true_eq, decide_eq_false_iff_not, lenOfD, Bool.true_and, Bool.and_true, ressD, resD, D.ok, D.cells, one, reduceCtorEq, Nat.reduceEqDiff, Nat.succ_ne_self, Bool.not_true, Bool.not_false, ← wrapF_eq, Int.reduceEq, decide_false, beq_iff_eq, beq_eq_false_iff_ne, ne_eq]
  refine T.blk (S := S12o bs) (good := fun p => p.1 ≤ bs.length ∧ bs.foldl byte1 4294967295#32 = (bs.drop p.1).foldl byte1 p.2) (fin := fun p => bs.foldl byte1 4294967295#32 = p.2) (μ := fun p => bs.length - p.1) (0, 4294967295#32) ⟨Nat.zero_le _, rfl⟩ ?_ rfl ?_ ?_ (fun _ h => h) ?_
  · exact Subs.refl' _
  · intro y _
    exact free_ok rfl rfl (by simp [S12o, idfrees, idfree, u32, i64, bytesD_free])
  · rintro ⟨i, r⟩ ⟨hi, hr⟩
    simp only at hi hr
    refine Y.T ?_
    simp only [S12o, u32, i64, RegX, EndT, tupD, Y, C.loops, Bool.or_false, Bool.false_or, Bool.or_true, Bool.true_or, Bool.or_self, gate, evalI, St.ev, St.put, andT_some, List.getD_cons_succ, List.getD_cons_zero, List.cons_append, List.nil_append, List.replicate,
  List.length_cons, List.length_nil, Nat.reduceSub, Nat.reduceAdd, List.set_cons_succ, List.set_cons_zero, List.map_cons, List.map_nil, Option.map_some, Option.map_none, ← binJ_eq, binJ, decide_true, cond_true, cond_false, if_true, if_false,
  decide_eq_true_eq, decide_eq_false_iff_not, lenOfD, Bool.true_and, Bool.and_true, ressD, resD, D.ok, D.cells, one, reduceCtorEq, Nat.reduceEqDiff, Nat.succ_ne_self, Bool.not_true, Bool.not_false, ← wrapF_eq, Int.reduceEq, decide_false, beq_iff_eq, beq_eq_false_iff_ne, ne_eq]
    refine ⟨fun h => ?_, fun h => ⟨trivial, (i, r), ?_, ?_, [], rfl⟩⟩
    · have hlt : i < bs.length := by rw [bytesD_len] at h; omega
      refine T.seq (T.block (Y.T ?_))
      simp only [RegX, EndT, tupD, Y, C.loops, Bool.or_false, Bool.false_or, Bool.or_true, Bool.true_or, Bool.or_self, gate, evalI, St.ev, St.put, andT_some, List.getD_cons_succ, List.getD_cons_zero, List.cons_append, List.nil_append, List.replicate,
  List.length_cons, List.length_nil, Nat.reduceSub, Nat.reduceAdd, List.set_cons_succ, List.set_cons_zero, List.map_cons, List.map_nil, Option.map_some, Option.map_none, ← binJ_eq, binJ, decide_true, cond_true, cond_false, if_true, if_false,
  decide_eq_true_eq, decide_eq_false_iff_not, lenOfD, Bool.true_and, Bool.and_true, ressD, resD, D.ok, D.cells, one, reduceCtorEq, Nat.reduceEqDiff, Nat.succ_ne_self, Bool.not_true, Bool.not_false, ← wrapF_eq, Int.reduceEq, decide_false, beq_iff_eq, beq_eq_false_iff_ne, ne_eq, Int.toNat_natCast, bytesD_get hlt, Int.natCast_nonneg, conv_u32, xor_u32]
      refine T.blk (S := S12 bs i) (good := fun p => p.1 ≤ 8 ∧ byte1 r bs[i] = bitsN (8 - p.1) p.2) (fin := fun p => byte1 r bs[i] = p.2) (μ := fun p => 8 - p.1) (0, r ^^^ BitVec.zeroExtend 32 bs[i]) ⟨Nat.zero_le _, rfl⟩ ?_ rfl ?_ ?_ (fun _ h => h) ?_
      · repeat (first | exact Subs.refl' _ | refine Subs.cons (Sub.refl _) ?_ | refine Subs.cons (Sub.toDead _) ?_)
      · intro y _
        exact free_ok rfl rfl (by simp [S12, idfrees, idfree, u32, i64, bytesD_free])
      · rintro ⟨k, q⟩ ⟨hk, hq⟩
        simp only at hk hq
        refine Y.T ?_
        simp only [S12, u32, i64, RegX, EndT, tupD, Y, C.loops, Bool.or_false, Bool.false_or, Bool.or_true, Bool.true_or, Bool.or_self, gate, evalI, St.ev, St.put, andT_some, List.getD_cons_succ, List.getD_cons_zero, List.cons_append, List.nil_append, List.replicate,
  List.length_cons, List.length_nil, Nat.reduceSub, Nat.reduceAdd, List.set_cons_succ, List.set_cons_zero, List.map_cons, List.map_nil, Option.map_some, Option.map_none, ← binJ_eq, binJ, decide_true, cond_true, cond_false, if_true, if_false,
  decide_eq_true_eq, decide_eq_false_iff_not, lenOfD, Bool.true_and, Bool.and_true, ressD, resD, D.ok, D.cells, one, reduceCtorEq, Nat.reduceEqDiff, Nat.succ_ne_self, Bool.not_true, Bool.not_false, ← wrapF_eq, Int.reduceEq, decide_false, beq_iff_eq, beq_eq_false_iff_ne, ne_eq, rem_u32, half_u32, xor_poly]
        refine ⟨fun h8 => ⟨fun ht => ⟨(k + 1, bit1 q), ?_, ?_, ?_, [], rfl⟩, fun ht => ⟨(k + 1, bit1 q), ?_, ?_, ?_, [], rfl⟩⟩, fun h8 => ⟨trivial, (k, q), ?_, ?_, [], rfl⟩⟩
        · refine ⟨by simp only; omega, ?_⟩
          simp only
          rw [hq, show 8 - k = (8 - (k + 1)) + 1 by omega]
          rfl
        · simp only; omega
        · have hb : bit1 q = (q / 2#32) ^^^ 0xEDB88320#32 := by unfold bit1; rw [if_pos (by omega)]
          simp only [hb]
          rw [wrap64 (by omega)]
          repeat (first | exact Subs.refl' _ | refine Subs.cons (Sub.refl _) ?_ | refine Subs.cons (Sub.toDead _) ?_)
        · refine ⟨by simp only; omega, ?_⟩
          simp only
          rw [hq, show 8 - k = (8 - (k + 1)) + 1 by omega]
          rfl
        · simp only; omega
        · have hb : bit1 q = (q / 2#32) := by unfold bit1; rw [if_neg (by omega)]
          simp only [hb]
          rw [wrap64 (by omega)]
          repeat (first | exact Subs.refl' _ | refine Subs.cons (Sub.refl _) ?_ | refine Subs.cons (Sub.toDead _) ?_)
        · simp only
          rw [hq, show 8 - k = 0 by omega]
          rfl
        · repeat (first | exact Subs.refl' _ | refine Subs.cons (Sub.refl _) ?_ | refine Subs.cons (Sub.toDead _) ?_)
      · rintro ⟨k, q⟩ hq
        simp only at hq
        refine Y.T ?_
        simp only [S12, u32, i64, RegX, EndT, tupD, Y, C.loops, Bool.or_false, Bool.false_or, Bool.or_true, Bool.true_or, Bool.or_self, gate, evalI, St.ev, St.put, andT_some, List.getD_cons_succ, List.getD_cons_zero, List.cons_append, List.nil_append, List.replicate,
  List.length_cons, List.length_nil, Nat.reduceSub, Nat.reduceAdd, List.set_cons_succ, List.set_cons_zero, List.map_cons, List.map_nil, Option.map_some, Option.map_none, ← binJ_eq, binJ, decide_true, cond_true, cond_false, if_true, if_false,
  decide_eq_true_eq, decide_eq_false_iff_not, lenOfD, Bool.true_and, Bool.and_true, ressD, resD, D.ok, D.cells, one, reduceCtorEq, Nat.reduceEqDiff, Nat.succ_ne_self, Bool.not_true, Bool.not_false, ← wrapF_eq, Int.reduceEq, decide_false, beq_iff_eq, beq_eq_false_iff_ne, ne_eq]
        refine ⟨(i + 1, q), ⟨hlt, ?_⟩, ?_, ?_, [], rfl⟩
        · simp only
          rw [hr, List.drop_eq_getElem_cons hlt, List.foldl_cons, hq]
        · simp only; omega
        · rw [wrap64 (by omega)]
          repeat (first | exact Subs.refl' _ | refine Subs.cons (Sub.refl _) ?_ | refine Subs.cons (Sub.toDead _) ?_)
    · simp only
      have : bs.length ≤ i := by rw [bytesD_len] at h; omega
      rw [hr, List.drop_eq_nil_of_le this]; rfl
    · repeat (first | exact Subs.refl' _ | refine Subs.cons (Sub.refl _) ?_ | refine Subs.cons (Sub.toDead _) ?_)
  · rintro ⟨i, r⟩ hr
    simp only at hr
    refine Y.T ?_
    simp only [S12o, u32, i64, RegX, EndT, tupD, Y, C.loops, Bool.or_false, Bool.false_or, Bool.or_true, Bool.true_or, Bool.or_self, gate, evalI, St.ev, St.put, andT_some, List.getD_cons_succ, List.getD_cons_zero, List.cons_append, List.nil_append, List.replicate,
  List.length_cons, List.length_nil, Nat.reduceSub, Nat.reduceAdd, List.set_cons_succ, List.set_cons_zero, List.map_cons, List.map_nil, Option.map_some, Option.map_none, ← binJ_eq, binJ, decide_true, cond_true, cond_false, if_true, if_false,
  decide_eq_true_eq, decide_eq_false_iff_not, lenOfD, Bool.true_and, Bool.and_true, ressD, resD, D.ok, D.cells, one, reduceCtorEq, Nat.reduceEqDiff, Nat.succ_ne_self, Bool.not_true, Bool.not_false, ← wrapF_eq, Int.reduceEq, decide_false, beq_iff_eq, beq_eq_false_iff_ne, ne_eq, xor_ones]
    have hx := (r ^^^ 4294967295#32).isLt
    rw [wrap64 (by omega)]
    refine ⟨_, rfl, ?_⟩
    simp only [crcRef, hr]

def tableN : List Nat := [0, 498536548, 997073096, 651767980, 1994146192, 1802195444, 1303535960, 1342533948, 3988292384, 4027552580, 3604390888, 3412177804, 2607071920, 2262029012, 2685067896, 3183342108]

def tableD : List D := tableN.map fun (n : Nat) => .v (.int .u32 (n : Int))

/-- Four bits of the checksum. -/
def nib1 (r : BitVec 32) : BitVec 32 := (r >>> 4) ^^^ bitsN 4 (r &&& 15#32)

theorem tableN_get : ∀ j : Nat, j < 16 → tableN[j]? = some (bitsN 4 (BitVec.ofNat 32 j)).toNat := by decide +kernel

theorem table_get (j : Nat) (h : j < 16) : tableD[j]? = some (u32 (bitsN 4 (BitVec.ofNat 32 j))) := by
  unfold tableD u32
  rw [List.getElem?_map, tableN_get j h]
  rfl

end Go.Proofs.Ytjbhgmeokoconaa
