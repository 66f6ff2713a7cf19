/-
  Decode: the complete records at the start of bytes.
-/
import Derived.Test.YtjbhgmeokoconaaDec1
import Derived.Test.YtjbhgmeokoconaaLook
set_option linter.unusedSimpArgs false
set_option linter.unusedVariables false
set_option maxHeartbeats 2000000
namespace Go.Proofs.Ytjbhgmeokoconaa
open Go.Tm
set_option maxRecDepth 10000

/-- The records l are the complete ones at the start of the bytes; n bytes hold them. -/
def Dcd : List (BitVec 8) → List Rc → Nat → Prop
  | bs, [], n => n = 0 ∧ ∀ k, ¬ Good1 bs k
  | bs, r :: l, n => ∃ k, Good1 bs k ∧ r = recOf (bs.drop 4) k ∧ 80 + 32 * k ≤ n ∧ Dcd (bs.drop (80 + 32 * k)) l (n - (80 + 32 * k))

theorem Good1.uniq {bs : List (BitVec 8)} {k k' : Nat} (h : Good1 bs k) (h' : Good1 bs k') : k = k' := by
  have h1 := h.n
  have h2 := h'.n
  omega

theorem Dcd.uniq : ∀ {bs : List (BitVec 8)} {l l' : List Rc} {n n' : Nat}, Dcd bs l n → Dcd bs l' n' → l = l' ∧ n = n'
  | bs, [], [], n, n', h, h' => ⟨rfl, by rw [h.1, h'.1]⟩
  | bs, [], r :: l, n, n', h, h' => by obtain ⟨k, hk, _⟩ := h'; exact absurd hk (h.2 k)
  | bs, r :: l, [], n, n', h, h' => by obtain ⟨k, hk, _⟩ := h; exact absurd hk (h'.2 k)
  | bs, r :: l, r' :: l', n, n', h, h' => by
    obtain ⟨k, hk, rfl, h1, h2⟩ := h
    obtain ⟨k', hk', rfl, h1', h2'⟩ := h'
    obtain rfl := hk.uniq hk'
    obtain ⟨rfl, h3⟩ := Dcd.uniq h2 h2'
    exact ⟨rfl, by omega⟩

theorem recOf_len (L : List (BitVec 8)) (k : Nat) : (recOf L k).ps.length = k := psl_len L k

theorem Dcd.le : ∀ {bs : List (BitVec 8)} {l : List Rc} {n : Nat}, Dcd bs l n → n ≤ bs.length ∧ 80 * l.length ≤ n ∧ ∀ r ∈ l, r.ps.length ≤ 4096
  | bs, [], n, h => by simp [h.1]
  | bs, r :: l, n, h => by
    obtain ⟨k, hk, rfl, h1, h2⟩ := h
    have h3 := Dcd.le h2
    have h4 := hk.len
    simp only [List.length_drop, List.length_cons, List.mem_cons] at h3 ⊢
    refine ⟨by omega, by omega, ?_⟩
    rintro r (rfl | hr)
    · rw [recOf_len]; exact hk.k4
    · exact h3.2.2 r hr

def decR (l : List Rc) (n : Nat) : D := .tup [rcsD l, i64 n]

theorem dec26P (bs : List (BitVec 8)) (hlen : bs.length < 2 ^ 62) (m : List Ent) : CallT Try.prog 26 [.sl 1 (bytesD bs)] m fun d m' => ((∃ k, Good1 bs k ∧ d = yesR bs k) ∨ ((∀ k, ¬ Good1 bs k) ∧ d = noR)) ∧ m' = m :=
  (callP_of (R := fun d => (∃ k, Good1 bs k ∧ d = yesR bs k) ∨ ((∀ k, ¬ Good1 bs k) ∧ d = noR)) 5 (by simp [idfrees, idfree, bytesD_free]) (dec26 bs hlen) m).mono fun _ _ h => ⟨h.1.1, h.2⟩


theorem dec16 (bs : List (BitVec 8)) (hlen : bs.length < 2 ^ 40) : CallT Try.prog 16 [.sl 1 (bytesD bs)] [] fun d m' => ∃ l n, Dcd bs l n ∧ froz 5 m' d = decR l n := by
  refine callT_of k16_ok k16_name (Z.T hmix ?_)
  simp only [k16, k16c, cast0, eq_self, not_bool, gP_T, gP_F, bne_self_eq_false, bne_iff_ne, bne_eq_false_iff_eq, Bool.false_eq_true, Bool.true_eq_false, false_implies, true_implies, implies_true, not_true_eq_false, not_false_eq_true, beq_self_eq_true, RegZ_nil, RegZ_op, RegZ_opg, RegZ_callF, RegZ_callFg, DrX_zero, DrX_op, DrX_opg, DrX_callF, DrX_callFg, Z_skip, Z_reg, Z_draw, Z_any, Z_seq, Z_cond, Z_block, Z_loop, Z_exit, Z_ret, pin, KO_ap, KZ_normal, KZ_exit, KZ_ret, KS_normal, KS_exit, KS_ret, KB_normal, KB_exit, KB_ret, KM_normal, KM_exit, KM_ret, KI_normal, KI_exit, KI_ret, andT_ite, map_ite, Option.bind_some, Int.reduceLT, Nat.mul_one, Int.toNat_natCast, Int.natCast_nonneg, EndT_normal, EndT_ret, EndT_exit, endX_some, tupD_one, tupD_two, tupD_nil, Nat.lt_add_one, Nat.zero_lt_succ, C.lps, C.isLoop, bsliceD, contents, true_and, and_true, and_self, Bool.or_false, Bool.false_or, Bool.or_true, Bool.true_or, Bool.or_self, gate, evalI, St.ev, St.put, andT_some, List.getD_cons_succ, List.getD_cons_zero, List.cons_append, List.nil_append, List.replicate,
  List.length_cons, List.length_nil, Nat.reduceSub, Nat.reduceAdd, List.set_cons_succ, List.set_cons_zero, List.map_cons, List.map_nil, Option.map_some, Option.map_none, ← binJ_eq, binJ, decide_true, cond_true, cond_false, if_true, if_false,
  decide_eq_true_eq, decide_eq_false_iff_not, lenOfD, Bool.true_and, Bool.and_true, ressD, resD, D.ok, D.cells, one, reduceCtorEq, Nat.reduceEqDiff, Nat.succ_ne_self, Bool.not_true, Bool.not_false, ← wrapF_eq, Int.reduceEq, decide_false, beq_iff_eq, beq_eq_false_iff_ne, ne_eq]
  refine T.adopt 4 9 rfl ?_
  simp only [cast0, eq_self, not_bool, gP_T, gP_F, bne_self_eq_false, bne_iff_ne, bne_eq_false_iff_eq, Bool.false_eq_true, Bool.true_eq_false, false_implies, true_implies, implies_true, not_true_eq_false, not_false_eq_true, beq_self_eq_true, RegZ_nil, RegZ_op, RegZ_opg, RegZ_callF, RegZ_callFg, DrX_zero, DrX_op, DrX_opg, DrX_callF, DrX_callFg, Z_skip, Z_reg, Z_draw, Z_any, Z_seq, Z_cond, Z_block, Z_loop, Z_exit, Z_ret, pin, KO_ap, KZ_normal, KZ_exit, KZ_ret, KS_normal, KS_exit, KS_ret, KB_normal, KB_exit, KB_ret, KM_normal, KM_exit, KM_ret, KI_normal, KI_exit, KI_ret, andT_ite, map_ite, Option.bind_some, Int.reduceLT, Nat.mul_one, Int.toNat_natCast, Int.natCast_nonneg, EndT_normal, EndT_ret, EndT_exit, endX_some, tupD_one, tupD_two, tupD_nil, Nat.lt_add_one, Nat.zero_lt_succ, C.lps, C.isLoop, bsliceD, contents, true_and, and_true, and_self, Bool.or_false, Bool.false_or, Bool.or_true, Bool.true_or, Bool.or_self, gate, evalI, St.ev, St.put, andT_some, List.getD_cons_succ, List.getD_cons_zero, List.cons_append, List.nil_append, List.replicate,
  List.length_cons, List.length_nil, Nat.reduceSub, Nat.reduceAdd, List.set_cons_succ, List.set_cons_zero, List.map_cons, List.map_nil, Option.map_some, Option.map_none, ← binJ_eq, binJ, decide_true, cond_true, cond_false, if_true, if_false,
  decide_eq_true_eq, decide_eq_false_iff_not, lenOfD, Bool.true_and, Bool.and_true, ressD, resD, D.ok, D.cells, one, reduceCtorEq, Nat.reduceEqDiff, Nat.succ_ne_self, Bool.not_true, Bool.not_false, ← wrapF_eq, Int.reduceEq, decide_false, beq_iff_eq, beq_eq_false_iff_ne, ne_eq]
  refine T.blkM (X := List Rc × Nat) (fun x => ⟨[.sl 1 (bytesD bs), .dead, .dead, .dead, .own 0 x.1.length, .v (.int .i64 x.2), .dead, .dead, .dead, .dead, .dead, .dead, .dead, .dead, .dead, .dead, .dead, .dead, .dead, .dead, .dead, .dead, .dead, .dead, .dead, .dead, .dead, .dead], [.live 9 x.1.length (x.1.map rcD)]⟩)
    (fun x => x.2 ≤ bs.length ∧ 80 * x.1.length ≤ x.2 ∧ ∀ l' n', Dcd (bs.drop x.2) l' n' → Dcd bs (x.1 ++ l') (x.2 + n')) (fun _ => False) (fun x => bs.length - x.2) ([], 0) ⟨Nat.zero_le _, by simp, fun l' n' h => by simpa using h⟩ ?_ ?_ ?_ (fun ⟨_, h⟩ => h.elim) (fun _ h => h.elim)
  · exact At.same _ _ _ (by repeat (first | exact Subs.refl' _ | refine Subs.cons (Sub.refl _) ?_ | refine Subs.cons (Sub.toDead _) ?_))
  · intro y hy
    exact ⟨by simp, by simp [Ent.below, belows, below, belows_free, below_free, belowsApp, bytesD_free], by simp [Ent.below, belows_free, rcs_free]⟩
  · rintro ⟨l, tot⟩ ⟨h1, h2, h3⟩
    simp only at h1 h2 h3
    refine Z.T hmix ?_
    simp only [cast0, eq_self, not_bool, gP_T, gP_F, bne_self_eq_false, bne_iff_ne, bne_eq_false_iff_eq, Bool.false_eq_true, Bool.true_eq_false, false_implies, true_implies, implies_true, not_true_eq_false, not_false_eq_true, beq_self_eq_true, RegZ_nil, RegZ_op, RegZ_opg, RegZ_callF, RegZ_callFg, DrX_zero, DrX_op, DrX_opg, DrX_callF, DrX_callFg, Z_skip, Z_reg, Z_draw, Z_any, Z_seq, Z_cond, Z_block, Z_loop, Z_exit, Z_ret, pin, KO_ap, KZ_normal, KZ_exit, KZ_ret, KS_normal, KS_exit, KS_ret, KB_normal, KB_exit, KB_ret, KM_normal, KM_exit, KM_ret, KI_normal, KI_exit, KI_ret, andT_ite, map_ite, Option.bind_some, Int.reduceLT, Nat.mul_one, Int.toNat_natCast, Int.natCast_nonneg, EndT_normal, EndT_ret, EndT_exit, endX_some, tupD_one, tupD_two, tupD_nil, Nat.lt_add_one, Nat.zero_lt_succ, C.lps, C.isLoop, bsliceD, contents, true_and, and_true, and_self, Bool.or_false, Bool.false_or, Bool.or_true, Bool.true_or, Bool.or_self, gate, evalI, St.ev, St.put, andT_some, List.getD_cons_succ, List.getD_cons_zero, List.cons_append, List.nil_append, List.replicate,
  List.length_cons, List.length_nil, Nat.reduceSub, Nat.reduceAdd, List.set_cons_succ, List.set_cons_zero, List.map_cons, List.map_nil, Option.map_some, Option.map_none, ← binJ_eq, binJ, decide_true, cond_true, cond_false, if_true, if_false,
  decide_eq_true_eq, decide_eq_false_iff_not, lenOfD, Bool.true_and, Bool.and_true, ressD, resD, D.ok, D.cells, one, reduceCtorEq, Nat.reduceEqDiff, Nat.succ_ne_self, Bool.not_true, Bool.not_false, ← wrapF_eq, Int.reduceEq, decide_false, beq_iff_eq, beq_eq_false_iff_ne, ne_eq, Tm.part, List.getElem?_cons_zero, List.getElem?_cons_succ, List.drop_succ_cons, List.drop_zero, List.take_succ_cons, List.take_zero, List.take_nil, List.drop_nil, Nat.zero_add, Nat.add_zero, List.length_map, Nat.le_refl, Nat.reduceLeDiff, Nat.reduceLT, Int.reduceLE, Int.reduceToNat, Nat.reducePow, Int.reducePow, ite_true, ite_false, D.upd, splice, List.append_nil, buildD, bound, sliceD, leaves, bytesD_len, h1, bytesD_drop, List.take_length]
    rw [List.take_of_length_le (by rw [bytesD_len, List.length_drop]; omega)]
    refine callX_of (dec26P (bs.drop tot) (by rw [List.length_drop]; omega) _) ?_
    rintro d m' ⟨⟨k, hk, rfl⟩ | ⟨hk, rfl⟩, rfl⟩
    · have hkl := hk.len
      rw [List.length_drop] at hkl
      obtain ⟨c, hc, hc9⟩ := rc_ok (recOf ((bs.drop tot).drop 4) k)
      simp only [yesR, hc, cast0, eq_self, not_bool, gP_T, gP_F, bne_self_eq_false, bne_iff_ne, bne_eq_false_iff_eq, Bool.false_eq_true, Bool.true_eq_false, false_implies, true_implies, implies_true, not_true_eq_false, not_false_eq_true, beq_self_eq_true, RegZ_nil, RegZ_op, RegZ_opg, RegZ_callF, RegZ_callFg, DrX_zero, DrX_op, DrX_opg, DrX_callF, DrX_callFg, Z_skip, Z_reg, Z_draw, Z_any, Z_seq, Z_cond, Z_block, Z_loop, Z_exit, Z_ret, pin, KO_ap, KZ_normal, KZ_exit, KZ_ret, KS_normal, KS_exit, KS_ret, KB_normal, KB_exit, KB_ret, KM_normal, KM_exit, KM_ret, KI_normal, KI_exit, KI_ret, andT_ite, map_ite, Option.bind_some, Int.reduceLT, Nat.mul_one, Int.toNat_natCast, Int.natCast_nonneg, EndT_normal, EndT_ret, EndT_exit, endX_some, tupD_one, tupD_two, tupD_nil, Nat.lt_add_one, Nat.zero_lt_succ, C.lps, C.isLoop, bsliceD, contents, true_and, and_true, and_self, Bool.or_false, Bool.false_or, Bool.or_true, Bool.true_or, Bool.or_self, gate, evalI, St.ev, St.put, andT_some, List.getD_cons_succ, List.getD_cons_zero, List.cons_append, List.nil_append, List.replicate,
  List.length_cons, List.length_nil, Nat.reduceSub, Nat.reduceAdd, List.set_cons_succ, List.set_cons_zero, List.map_cons, List.map_nil, Option.map_some, Option.map_none, ← binJ_eq, binJ, decide_true, cond_true, cond_false, if_true, if_false,
  decide_eq_true_eq, decide_eq_false_iff_not, lenOfD, Bool.true_and, Bool.and_true, ressD, resD, D.ok, D.cells, one, reduceCtorEq, Nat.reduceEqDiff, Nat.succ_ne_self, Bool.not_true, Bool.not_false, ← wrapF_eq, Int.reduceEq, decide_false, beq_iff_eq, beq_eq_false_iff_ne, ne_eq, Tm.part, List.getElem?_cons_zero, List.getElem?_cons_succ, List.drop_succ_cons, List.drop_zero, List.take_succ_cons, List.take_zero, List.take_nil, List.drop_nil, Nat.zero_add, Nat.add_zero, List.length_map, Nat.le_refl, Nat.reduceLeDiff, Nat.reduceLT, Int.reduceLE, Int.reduceToNat, Nat.reducePow, Int.reducePow, ite_true, ite_false, D.upd, splice, List.append_nil, buildD, bound, sliceD, leaves, i64, hc9]
      simp only [List.take_of_length_le (Nat.le_of_eq hc9), List.drop_of_length_le (Nat.le_of_eq hc9), hc9, cast0, eq_self, not_bool, gP_T, gP_F, bne_self_eq_false, bne_iff_ne, bne_eq_false_iff_eq, Bool.false_eq_true, Bool.true_eq_false, false_implies, true_implies, implies_true, not_true_eq_false, not_false_eq_true, beq_self_eq_true, RegZ_nil, RegZ_op, RegZ_opg, RegZ_callF, RegZ_callFg, DrX_zero, DrX_op, DrX_opg, DrX_callF, DrX_callFg, Z_skip, Z_reg, Z_draw, Z_any, Z_seq, Z_cond, Z_block, Z_loop, Z_exit, Z_ret, pin, KO_ap, KZ_normal, KZ_exit, KZ_ret, KS_normal, KS_exit, KS_ret, KB_normal, KB_exit, KB_ret, KM_normal, KM_exit, KM_ret, KI_normal, KI_exit, KI_ret, andT_ite, map_ite, Option.bind_some, Int.reduceLT, Nat.mul_one, Int.toNat_natCast, Int.natCast_nonneg, EndT_normal, EndT_ret, EndT_exit, endX_some, tupD_one, tupD_two, tupD_nil, Nat.lt_add_one, Nat.zero_lt_succ, C.lps, C.isLoop, bsliceD, contents, true_and, and_true, and_self, Bool.or_false, Bool.false_or, Bool.or_true, Bool.true_or, Bool.or_self, gate, evalI, St.ev, St.put, andT_some, List.getD_cons_succ, List.getD_cons_zero, List.cons_append, List.nil_append, List.replicate,
  List.length_cons, List.length_nil, Nat.reduceSub, Nat.reduceAdd, List.set_cons_succ, List.set_cons_zero, List.map_cons, List.map_nil, Option.map_some, Option.map_none, ← binJ_eq, binJ, decide_true, cond_true, cond_false, if_true, if_false,
  decide_eq_true_eq, decide_eq_false_iff_not, lenOfD, Bool.true_and, Bool.and_true, ressD, resD, D.ok, D.cells, one, reduceCtorEq, Nat.reduceEqDiff, Nat.succ_ne_self, Bool.not_true, Bool.not_false, ← wrapF_eq, Int.reduceEq, decide_false, beq_iff_eq, beq_eq_false_iff_ne, ne_eq, Tm.part, List.getElem?_cons_zero, List.getElem?_cons_succ, List.drop_succ_cons, List.drop_zero, List.take_succ_cons, List.take_zero, List.take_nil, List.drop_nil, Nat.zero_add, Nat.add_zero, List.length_map, Nat.le_refl, Nat.reduceLeDiff, Nat.reduceLT, Int.reduceLE, Int.reduceToNat, Nat.reducePow, Int.reducePow, ite_true, ite_false, D.upd, splice, List.append_nil, buildD, bound, sliceD, leaves]
      refine ⟨by omega, (l ++ [recOf ((bs.drop tot).drop 4) k], tot + (80 + 32 * k)), ⟨by simp only; omega, by simp only [List.length_append, List.length_cons, List.length_nil]; omega, ?_⟩, by simp only; omega, ?_⟩
      · intro l' n' hd
        simp only at hd ⊢
        rw [List.append_assoc, List.singleton_append, Nat.add_assoc]
        refine h3 _ _ ⟨k, hk, rfl, by omega, ?_⟩
        rw [List.drop_drop, show 80 + 32 * k + n' - (80 + 32 * k) = n' by omega]
        exact hd
      · rw [wrapI (by omega), show (tot : Int) + ((80 + 32 * k : Nat) : Int) = ((tot + (80 + 32 * k) : Nat) : Int) by omega]
        refine At.cut 1 ?_ ?_
        · simp only [List.length_append, List.length_cons, List.length_nil, Nat.zero_add]
          repeat (first | exact Subs.refl' _ | refine Subs.cons (Sub.refl _) ?_ | refine Subs.cons (Sub.toDead _) ?_)
        · simp only [List.map_append, List.map_cons, List.map_nil, hc, List.length_append, List.length_cons, List.length_nil, Nat.zero_add, List.take_succ_cons, List.take_zero]
    · simp only [noR, zeroD, nilD, cast0, eq_self, not_bool, gP_T, gP_F, bne_self_eq_false, bne_iff_ne, bne_eq_false_iff_eq, Bool.false_eq_true, Bool.true_eq_false, false_implies, true_implies, implies_true, not_true_eq_false, not_false_eq_true, beq_self_eq_true, RegZ_nil, RegZ_op, RegZ_opg, RegZ_callF, RegZ_callFg, DrX_zero, DrX_op, DrX_opg, DrX_callF, DrX_callFg, Z_skip, Z_reg, Z_draw, Z_any, Z_seq, Z_cond, Z_block, Z_loop, Z_exit, Z_ret, pin, KO_ap, KZ_normal, KZ_exit, KZ_ret, KS_normal, KS_exit, KS_ret, KB_normal, KB_exit, KB_ret, KM_normal, KM_exit, KM_ret, KI_normal, KI_exit, KI_ret, andT_ite, map_ite, Option.bind_some, Int.reduceLT, Nat.mul_one, Int.toNat_natCast, Int.natCast_nonneg, EndT_normal, EndT_ret, EndT_exit, endX_some, tupD_one, tupD_two, tupD_nil, Nat.lt_add_one, Nat.zero_lt_succ, C.lps, C.isLoop, bsliceD, contents, true_and, and_true, and_self, Bool.or_false, Bool.false_or, Bool.or_true, Bool.true_or, Bool.or_self, gate, evalI, St.ev, St.put, andT_some, List.getD_cons_succ, List.getD_cons_zero, List.cons_append, List.nil_append, List.replicate,
  List.length_cons, List.length_nil, Nat.reduceSub, Nat.reduceAdd, List.set_cons_succ, List.set_cons_zero, List.map_cons, List.map_nil, Option.map_some, Option.map_none, ← binJ_eq, binJ, decide_true, cond_true, cond_false, if_true, if_false,
  decide_eq_true_eq, decide_eq_false_iff_not, lenOfD, Bool.true_and, Bool.and_true, ressD, resD, D.ok, D.cells, one, reduceCtorEq, Nat.reduceEqDiff, Nat.succ_ne_self, Bool.not_true, Bool.not_false, ← wrapF_eq, Int.reduceEq, decide_false, beq_iff_eq, beq_eq_false_iff_ne, ne_eq, Tm.part, List.getElem?_cons_zero, List.getElem?_cons_succ, List.drop_succ_cons, List.drop_zero, List.take_succ_cons, List.take_zero, List.take_nil, List.drop_nil, Nat.zero_add, Nat.add_zero, List.length_map, Nat.le_refl, Nat.reduceLeDiff, Nat.reduceLT, Int.reduceLE, Int.reduceToNat, Nat.reducePow, Int.reducePow, ite_true, ite_false, D.upd, splice, List.append_nil, buildD, bound, sliceD, leaves, i64]
      refine ⟨l, tot, ?_, ?_⟩
      · have := h3 [] 0 ⟨rfl, hk⟩
        simpa using this
      · rw [froz_tup, List.map_cons, List.map_cons, List.map_nil, froz_own rfl (rcs_free _), froz_v]
        rfl

theorem dec16P (bs : List (BitVec 8)) (hlen : bs.length < 2 ^ 40) (m : List Ent) : CallT Try.prog 16 [.sl 1 (bytesD bs)] m fun d m' => (∃ l n, Dcd bs l n ∧ d = decR l n) ∧ m' = m :=
  (callP_of (R := fun d => ∃ l n, Dcd bs l n ∧ d = decR l n) 5 (by simp [idfrees, idfree, bytesD_free]) (dec16 bs hlen) m).mono fun _ _ h => ⟨h.1.1, h.2⟩
end Go.Proofs.Ytjbhgmeokoconaa
