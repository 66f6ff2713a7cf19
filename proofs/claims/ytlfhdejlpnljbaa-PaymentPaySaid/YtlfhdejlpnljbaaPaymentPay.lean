/-
  PaymentPay: the given statement.
-/
import Derived.Test.YtlfhdejlpnljbaaRows
import Derived.Test.YtlfhdejlpnljbaaPay4
import Derived.Test.YtlfhdejlpnljbaaTmI
import Derived.WalkKit
import Derived.ProofKit
import Derived.OpenShut
import Derived.ChangeOld
set_option linter.unusedSimpArgs false
set_option linter.unusedVariables false
namespace Go.Proofs.Ytlfhdejlpnljbaa.PaymentPayDone
open Go.ChangeShapes Go.WideShapes Go.ChangeAt Go.RowKit
open Go.Tm (CallT Gh VRel VsRel Inv Step shOf aggT LookV R0 arg_tree law_walk)

theorem own : ownKnob Try.prog.godebug = none := by kernel_rfl
theorem laidOut : laidOutB Try.prog = true := by kernel_rfl
theorem shape0 : shOf Try.prog 12 30 = some (.sl 4 true (.cat [(.int .i64), (.int .i64), (.int .i64), (.int .i64)])) := by kernel_rfl
theorem agg0 : aggT Try.prog 30 = false := by kernel_rfl
theorem shape1 : shOf Try.prog 12 3 = some (.int .i64) := by kernel_rfl
theorem agg1 : aggT Try.prog 3 = false := by kernel_rfl
theorem shape2 : shOf Try.prog 12 26 = some (.cat [(.int .i64), (.int .i64), (.int .i64), (.int .i64), (.int .i64), (.int .i64), (.int .i64), (.cat [(.int .i64), (.sl 1 false (.int .i64))])]) := by kernel_rfl
theorem agg2 : aggT Try.prog 26 = true := by kernel_rfl
theorem shape3 : shOf Try.prog 12 22 = some (.sl 1 false (.int .i64)) := by kernel_rfl
theorem agg3 : aggT Try.prog 22 = false := by kernel_rfl

set_option maxRecDepth 100000 in
theorem lifted (os : Os) (started : os.Started) (H : Type) (enc : TypeId × Value → H) :
    ReturnsInHanded {} Try.checked os 8 .any (Rows.paymentPaySpec.pre6 enc Try.prog Try.f8 Rows.paymentPayRow.domain false) (Rows.paymentPaySpec.post enc Try.prog Try.f8 false true false false) := by
  refine returnsInHanded_of_change (C := Try.checked) own started (by kernel_rfl) Try.func8
    (ChangeSpec.witness6 (enc := enc) (C := Try.checked) false ⟨#[], #[.slice none 0 0, .int .i64 0, .agg #[.int .i64 0, .int .i64 0, .int .i64 0, .int .i64 0, .int .i64 0, .int .i64 0, .int .i64 0, .int .i64 0, .slice none 0 0], .slice none 0 0], []⟩ 8 (by kernel_rfl) (by kernel_rfl) (by kernel_rfl) (by kernel_rfl)) ?_
  intro W base args ds gs before hval0 hW hcnd _
  have hval : ∀ (j : Nat) t v, Try.f8.params[j]? = some t → args[j]? = some v → Value.okWide Try.prog W .any base t v := hval0
  have hW' := hW
  obtain ⟨p, q, hA0, hV, rfl, hfz, hnd⟩ := hW
  have hA : DataW.TrodAll enc Try.prog W 0 (fun _ => true) true Try.f8.params.toList args.toList ds p := hA0
  rw [Try.params8] at hA hval
  obtain ⟨v0, vs0, d0, ds0, p0, q0, hargs, rfl, rfl, h0, r0⟩ := trodAll_cons hA
  obtain ⟨v1, vs1, d1, ds1, p1, q1, rfl, rfl, rfl, h1, r1⟩ := trodAll_cons r0
  obtain ⟨v2, vs2, d2, ds2, p2, q2, rfl, rfl, rfl, h2, r2⟩ := trodAll_cons r1
  obtain ⟨v3, vs3, d3, ds3, p3, q3, rfl, rfl, rfl, h3, r3⟩ := trodAll_cons r2
  obtain ⟨rfl, rfl, rfl⟩ := trodAll_nil r3
  obtain rfl : args = #[v0, v1, v2, v3] := by cases args; simp_all
  obtain ⟨rfl, rfl⟩ := trodVars_none hV
  have lt0 : ∀ x ∈ p0, x.block < W.heap.size := by obtain ⟨m, hm⟩ := h0; exact DataW.trod_lt m _ _ _ hm
  obtain ⟨e0, l0, g0⟩ := arg_tree shape0 h0 (hval 0 30 v0 rfl rfl)
  rw [agg0] at l0
  have lt1 : ∀ x ∈ p1, x.block < W.heap.size := by obtain ⟨m, hm⟩ := h1; exact DataW.trod_lt m _ _ _ hm
  obtain ⟨e1, l1, g1⟩ := arg_tree shape1 h1 (hval 1 3 v1 rfl rfl)
  rw [agg1] at l1
  have lt2 : ∀ x ∈ p2, x.block < W.heap.size := by obtain ⟨m, hm⟩ := h2; exact DataW.trod_lt m _ _ _ hm
  obtain ⟨e2, l2, g2⟩ := arg_tree shape2 h2 (hval 2 26 v2 rfl rfl)
  rw [agg2] at l2
  have lt3 : ∀ x ∈ p3, x.block < W.heap.size := by obtain ⟨m, hm⟩ := h3; exact DataW.trod_lt m _ _ _ hm
  obtain ⟨e3, l3, g3⟩ := arg_tree shape3 h3 (hval 3 22 v3 rfl rfl)
  rw [agg3] at l3
  clear hA0 hval0
  refine (law_walk (vs := [v0, v1, v2, v3]) (lawPayG _ _ _ _ l0 l1 l2 l3) (by simp only [VsRel]; exact ⟨_, _, rfl, g0, ⟨_, _, rfl, g1, ⟨_, _, rfl, g2, ⟨_, _, rfl, g3, rfl⟩⟩⟩⟩)).mono fun e W' ⟨he, bel⟩ => ?_
  subst he
  exact ⟨_, rfl, _, _, _, [], _, [], hW', trodAll_mk1 (shut_bool Try.underlying4 _), (trodAll_cons_mk (Below.trod laidOut (by kernel_rfl) (of_decide_eq_true (by kernel_rfl)) h0 bel lt0) (trodAll_cons_mk (Below.trod laidOut (by kernel_rfl) (of_decide_eq_true (by kernel_rfl)) h1 bel lt1) (trodAll_cons_mk (Below.trod laidOut (by kernel_rfl) (of_decide_eq_true (by kernel_rfl)) h2 bel lt2) (trodAll_cons_mk (Below.trod laidOut (by kernel_rfl) (of_decide_eq_true (by kernel_rfl)) h3 bel lt3) trodAll_mk0)))), rfl, bel.frame _, fun h => by cases h⟩

theorem over : Rows.paymentPayRow.holds Try.pinned (OpenSpec.ofChange Rows.paymentPaySpec) :=
  OpenClaim.holds_of_wide 8 Try.f8 rfl rfl rfl rfl rfl rfl rfl ⟨rfl, rfl, rfl, rfl, rfl⟩ rfl rfl rfl rfl rfl (by kernel_rfl) Try.func8 (by kernel_rfl)
    (of_decide_eq_true (by kernel_rfl)) (by unfold Func.isWrapper; first | (rw [if_pos (by decide +kernel)]; kernel_rfl) | (rw [if_neg (by decide +kernel)]; exact ⟨rfl, rfl⟩))
    (fun os started H enc _ => lifted os started H enc)

/-- The statement. -/
theorem proved : Rows.PaymentPaySaid := over
end Go.Proofs.Ytlfhdejlpnljbaa.PaymentPayDone
