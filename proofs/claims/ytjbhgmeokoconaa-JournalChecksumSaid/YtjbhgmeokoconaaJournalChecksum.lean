/-
  JournalChecksum: the given statement.
-/
import Derived.Test.YtjbhgmeokoconaaRows
import Derived.Test.YtjbhgmeokoconaaLaw3
import Derived.Test.YtjbhgmeokoconaaGlue
import Derived.WalkKit
import Derived.ProofKit
import Derived.OpenShut
import Derived.ChangeOld
set_option linter.unusedSimpArgs false
set_option linter.unusedVariables false
namespace Go.Proofs.Ytjbhgmeokoconaa.JournalChecksumDone
open Go.ChangeShapes Go.WideShapes Go.ChangeAt Go.RowKit
open Go.Tm (CallT Gh VRel VsRel Inv Step inv_bare)

theorem own : ownKnob Try.prog.godebug = none := by kernel_rfl
theorem laidOut : laidOutB Try.prog = true := by kernel_rfl

theorem walk (bs : List (BitVec 8)) (a0 : Option Addr) (len0 cap0 : Nat) (w : World) (hlen : bs.length < 2 ^ 63) (hv : VRel (Gh.bare fun b => b < w.heap.size) w (.sl 1 (bytesD bs)) (.slice a0 len0 cap0)) :
    Calls Try.prog 3 #[.slice a0 len0 cap0] w fun e w' => e = .returned (.bool true) ∧ Below w.heap.size w w' := by
  have h := (law3 bs hlen).2 (Gh.bare fun b => b < w.heap.size) w [.slice a0 len0 cap0] (by simp only [VsRel]; exact ⟨_, _, rfl, hv, rfl⟩) (inv_bare fun _ h => h)
  refine h.mono ?_
  rintro e w' ⟨v, d, m', G', rfl, rfl, hvd, -, hs⟩
  simp only [VRel] at hvd
  subst hvd
  exact ⟨rfl, step_below hs⟩

set_option maxRecDepth 100000 in
theorem lifted (os : Os) (started : os.Started) (H : Type) (enc : TypeId × Value → H) :
    ReturnsInHanded {} Try.checked os 3 .any (Rows.journalChecksumSpec.pre6 enc Try.prog Try.f3 Rows.journalChecksumRow.domain false) (Rows.journalChecksumSpec.post enc Try.prog Try.f3 false true false false) := by
  refine returnsInHanded_of_change (C := Try.checked) own started (by kernel_rfl) Try.func3
    (ChangeSpec.witness6 (enc := enc) (C := Try.checked) false ⟨#[], #[.slice none 0 0], []⟩ 8 (by kernel_rfl) (by kernel_rfl) (by kernel_rfl) (by kernel_rfl)) ?_
  intro W base args ds gs before hval0 hW hcnd _
  have hval : ∀ (j : Nat) t v, Try.f3.params[j]? = some t → args[j]? = some v → Value.okWide Try.prog W .any base t v := hval0
  have hW' := hW
  obtain ⟨p, q, hA0, hV, rfl, hfz, hnd⟩ := hW
  have hA : DataW.TrodAll enc Try.prog W 0 (fun _ => true) true Try.f3.params.toList args.toList ds p := hA0
  rw [Try.params3] at hA hval
  obtain ⟨v0, vs0, d0, ds0, p0, q0, hargs, rfl, rfl, h0, r0⟩ := trodAll_cons hA
  obtain ⟨rfl, rfl, rfl⟩ := trodAll_nil r0
  obtain rfl : args = #[v0] := by cases args; simp_all
  obtain ⟨rfl, rfl⟩ := trodVars_none hV
  obtain ⟨a0, len0, cap0, rfl⟩ := okWide_slice Try.underlying22 (hval 0 22 v0 rfl rfl)
  have k0 := h0
  have lt0 : ∀ x ∈ p0, x.block < W.heap.size := by obtain ⟨m, hm⟩ := k0; exact DataW.trod_lt m _ _ _ hm
  obtain ⟨bs, hbl, hv⟩ : ∃ bs : List (BitVec 8), bs.length < 2 ^ 63 ∧ VRel (Gh.bare fun b => b < W.heap.size) W (.sl 1 (bytesD bs)) (.slice a0 len0 cap0) := by
    obtain ⟨fuel, hf⟩ := h0
    rcases open_ints Try.underlying22 Try.underlying5 (by kernel_rfl) hf with ⟨hcs, _⟩ | ⟨x, l, c, zs, hcs, _, hl, hm, hz, _, hcell, hwz⟩
    · simp [Value.cells] at hcs
      obtain ⟨rfl, rfl, rfl⟩ := hcs
      exact ⟨[], by decide, by simp only [VRel]; exact ⟨_, _, _, rfl, rfl, Nat.le_refl _, .inl rfl⟩⟩
    · simp [Value.cells] at hcs
      obtain ⟨rfl, rfl, rfl⟩ := hcs
      obtain ⟨bs, h1, h2⟩ := bytes_rel hl (by simpa using hz) hcell hwz
      exact ⟨bs, by unfold maxLen at hm; omega, h2⟩
  clear hA0 hval0
  refine (walk bs a0 len0 cap0 W hbl hv).mono fun e W' ⟨he, bel⟩ => ?_
  subst he
  exact ⟨_, rfl, _, _, _, [], _, [], hW', trodAll_mk1 (shut_bool Try.underlying4 _), (trodAll_cons_mk (Below.trod laidOut (by kernel_rfl) (of_decide_eq_true (by kernel_rfl)) k0 bel lt0) trodAll_mk0), rfl, bel.frame _, fun h => by cases h⟩

theorem over : Rows.journalChecksumRow.holds Try.pinned (OpenSpec.ofChange Rows.journalChecksumSpec) :=
  OpenClaim.holds_of_wide 3 Try.f3 rfl rfl rfl rfl rfl rfl rfl ⟨rfl, rfl, rfl, rfl, rfl⟩ rfl rfl rfl rfl rfl (by kernel_rfl) Try.func3 (by kernel_rfl)
    (of_decide_eq_true (by kernel_rfl)) (by unfold Func.isWrapper; first | (rw [if_pos (by decide +kernel)]; kernel_rfl) | (rw [if_neg (by decide +kernel)]; exact ⟨rfl, rfl⟩))
    (fun os started H enc _ => lifted os started H enc)

/-- The statement. -/
theorem proved : Rows.JournalChecksumSaid := over
end Go.Proofs.Ytjbhgmeokoconaa.JournalChecksumDone
