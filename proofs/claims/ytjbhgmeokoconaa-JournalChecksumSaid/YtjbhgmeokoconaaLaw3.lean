/-
  JournalChecksum, on trees.
-/
import Derived.Test.YtjbhgmeokoconaaSum2
import Derived.Test.YtjbhgmeokoconaaAwk
set_option linter.unusedSimpArgs false
set_option linter.unusedVariables false
namespace Go.Proofs.Ytjbhgmeokoconaa
open Go.Tm
set_option maxRecDepth 10000

theorem sumP (bs : List (BitVec 8)) (hlen : bs.length < 2 ^ 63) (m : List Ent) : CallT Try.prog 11 [.sl 1 (bytesD bs)] m fun d m' => d = i64 (crcRef bs).toNat ∧ m' = m :=
  (callP_of (R := fun d => d = i64 (crcRef bs).toNat) 3 (by simp [idfrees, idfree, bytesD_free]) ((sum bs hlen).mono fun d m' h => by rw [h]; rfl) m).mono fun _ _ h => ⟨h.1.1, h.2⟩

theorem refSumP (bs : List (BitVec 8)) (hlen : bs.length < 2 ^ 63) (m : List Ent) : CallT Try.prog 12 [.sl 1 (bytesD bs)] m fun d m' => d = i64 (crcRef bs).toNat ∧ m' = m :=
  (callP_of (R := fun d => d = i64 (crcRef bs).toNat) 3 (by simp [idfrees, idfree, bytesD_free]) ((refSum bs hlen).mono fun d m' h => by rw [h]; rfl) m).mono fun _ _ h => ⟨h.1.1, h.2⟩

theorem law3 (bs : List (BitVec 8)) (hlen : bs.length < 2 ^ 63) : CallT Try.prog 3 [.sl 1 (bytesD bs)] [] fun d _ => d = .v (.bool true) := by
  refine callT_of k3_ok k3_name (Y.T ?_)
  simp only [k3, k3c, Y, RegX, C.loops, Bool.or_false, Bool.false_or, Bool.or_true, Bool.true_or, Bool.or_self, gate, evalI, St.ev, St.put, andT_some, List.getD_cons_succ, List.getD_cons_zero, List.cons_append, List.nil_append, List.replicate,
  List.length_cons, List.length_nil, Nat.reduceSub, Nat.reduceAdd, List.set_cons_succ, List.set_cons_zero, List.map_cons, List.map_nil, Option.map_some, Option.map_none, ← binJ_eq, binJ, decide_true, cond_true, cond_false, if_true, if_false,
  decide_eq_true_eq, decide_eq_false_iff_not, lenOfD, Bool.true_and, Bool.and_true, EndT, ressD, resD, tupD, D.ok, one, reduceCtorEq, Nat.reduceEqDiff, Nat.succ_ne_self, Bool.not_true, Bool.not_false, ← wrapF_eq, Int.reduceEq, decide_false, beq_iff_eq, beq_eq_false_iff_ne, ne_eq]
  refine ⟨fun h => ?_, fun h => ?_⟩
  · refine callX_eq (awake _) ?_
    exact ⟨_, rfl, rfl⟩
  · refine callX_eq (sumP bs hlen _) ?_
    refine callX_eq (refSumP bs hlen _) ?_
    simp only [i64, decide_true, cond_true, beq_self_eq_true, Option.map_some, andT_some]
    refine ⟨fun _ => callX_eq (awake _) ⟨_, rfl, rfl⟩, fun h => absurd trivial h⟩
end Go.Proofs.Ytjbhgmeokoconaa
