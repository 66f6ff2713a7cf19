/-
  Closed facts of the row of the statement, by the kernel: no condition.
-/
import Derived.Test.YtjiaejcpmcknnaaGreatDoorRows
import Derived.WalkKit
import Derived.ProofKit
import Derived.JoinedOf
import Derived.Test.YtjiaejcpmcknnaaGreatDoorJ0
import Derived.Test.YtjiaejcpmcknnaaGreatDoorJ1
import Derived.Test.YtjiaejcpmcknnaaGreatDoorJ2
import Derived.Test.YtjiaejcpmcknnaaGreatDoorJ3
namespace Go.Proofs.YtjiaejcpmcknnaaGreatDoor
theorem j_wf:Rows.deadrulesSoundRow.wf (OpenSpec.ofChange Rows.deadrulesSoundSpec)=true:=by kernel_rfl
theorem j_lo:laidOutB Tryz.prog=true:=by kernel_rfl
theorem j_mr:mapsRowed Tryz.prog=true:=by kernel_rfl
theorem j_par:Tryz.f6.params.all (Tryz.prog.readableRec ·)=true:=by kernel_rfl
theorem j_tie:namedTie Tryz.prog Rows.deadrulesSoundRow.named Rows.deadrulesSoundSpec.vars=true:=by kernel_rfl
theorem j_s1:(Rows.deadrulesSoundRow.stops == [])=true:=by kernel_rfl
theorem j_s2:(Tryz.prog.stops == [])=true:=by kernel_rfl
theorem j_s3:(Rows.deadrulesSoundRow.knobs == [])=true:=by kernel_rfl
theorem j_s4:(Tryz.prog.stopKnobs == [])=true:=by kernel_rfl
theorem j_m1:(Rows.deadrulesSoundRow.maps == (Tryz.f6.params.toList ++ Rows.deadrulesSoundSpec.plain.varTypes Tryz.prog).any (Tryz.prog.mapsRec ·))=true:=by kernel_rfl
theorem j_m2:(Rows.deadrulesSoundRow.ifaces == (Tryz.f6.params.toList ++ Rows.deadrulesSoundSpec.plain.varTypes Tryz.prog).any (Tryz.prog.ifacesRec ·))=true:=by kernel_rfl
theorem j_m3:(Rows.deadrulesSoundRow.mapsOut == Tryz.prog.mapsAmong Tryz.f6.resultTypes.toList)=true:=by kernel_rfl
theorem j_l1:(Rows.deadrulesSoundRow.loops == (Tryz.f6.params.toList ++ Rows.deadrulesSoundSpec.plain.varTypes Tryz.prog).any (Tryz.prog.loopsFrom ·))=true:=by kernel_rfl
theorem j_w1:(Rows.deadrulesSoundRow.wideKeys == (Tryz.f6.params.toList ++ Rows.deadrulesSoundSpec.plain.varTypes Tryz.prog ++ Tryz.f6.resultTypes.toList).any (Tryz.prog.wideKeysFrom ·))=true:=by kernel_rfl
theorem j_va:Rows.deadrulesSoundSpec.vars.all (Tryz.prog.varReadable ·)=true:=by kernel_rfl
theorem j_re:Tryz.f6.resultTypes.all (λt => Tryz.prog.readableRec t && decide (t < Tryz.prog.types.size))=true:=by kernel_rfl
theorem j_io:(Rows.deadrulesSoundRow.ifacesOut == Tryz.f6.resultTypes.toList.any (Tryz.prog.ifacesRec ·))=true:=by kernel_rfl
theorem j_lp:(Rows.deadrulesSoundRow.loopsOut == Tryz.f6.resultTypes.toList.any (Tryz.prog.loopsFrom ·))=true:=by kernel_rfl
theorem j_pk:(Rows.deadrulesSoundRow.plainKeys == Tryz.prog.plainKeys)=true:=by kernel_rfl
theorem j_st:Rows.deadrulesSoundRow.shortTexts.isNone=true:=by kernel_rfl
theorem j_sh:Tryz.prog.stopsHeard=true:=by kernel_rfl
theorem j_me:Tryz.prog.mayEnter=true:=by kernel_rfl
theorem j_li:(Rows.deadrulesSoundRow.lifted == Tryz.prog.liftsFinal)=true:=by kernel_rfl
theorem j_mk:(Tryz.prog.make == some Rows.deadrulesSoundRow.make)=true:=by kernel_rfl
theorem j_pi:(Rows.deadrulesSoundRow.pinned == Rows.deadrulesSoundRow.pinnedBy)=true:=by kernel_rfl
theorem j_v1:(Rows.deadrulesSoundRow.veiled == (Tryz.f6.params.toList ++ Rows.deadrulesSoundSpec.plain.varTypes Tryz.prog ++ Tryz.f6.resultTypes.toList).any (Tryz.prog.veiledRec ·))=true:=by kernel_rfl
theorem j_v2:Rows.deadrulesSoundRow.veiledFits Tryz.prog Tryz.f6.params.toList (Tryz.f6.params.toList ++ Rows.deadrulesSoundSpec.plain.varTypes Tryz.prog ++ Tryz.f6.resultTypes.toList)=true:=by kernel_rfl
theorem jf:joinedFacts Tryz.prog 6 Tryz.f6 Rows.deadrulesSoundSpec Rows.deadrulesSoundRow=true:=by
 unfold joinedFacts;rw [j_wf,j_lo,j_mr,j_par,j_tie,j_s1,j_s2,j_s3,j_s4,j_inp,j_unf,j_rec,j_nam,j_m1,j_m2,j_m3,j_l1,j_w1,j_va,j_re,j_io,j_lp,j_pk,j_st,j_sh,j_me,j_li,j_mk,j_pi,j_v1,j_v2];kernel_rfl
end Go.Proofs.YtjiaejcpmcknnaaGreatDoor
