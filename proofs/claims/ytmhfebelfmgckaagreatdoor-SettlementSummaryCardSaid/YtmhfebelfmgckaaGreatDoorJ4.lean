/-
  Closed facts of the row of the statement, by the kernel: no condition.
-/
import Derived.Test.YtmhfebelfmgckaaGreatDoorRows
import Derived.WalkKit
import Derived.ProofKit
import Derived.JoinedOf
import Derived.Test.YtmhfebelfmgckaaGreatDoorJ0
import Derived.Test.YtmhfebelfmgckaaGreatDoorJ1
import Derived.Test.YtmhfebelfmgckaaGreatDoorJ2
import Derived.Test.YtmhfebelfmgckaaGreatDoorJ3
namespace Go.Proofs.YtmhfebelfmgckaaGreatDoor
theorem j_wf:Rows.settlementSummaryRow.wf (OpenSpec.ofChange Rows.settlementSummarySpec)=true:=by kernel_rfl
theorem j_lo:laidOutB Tryz.prog=true:=by kernel_rfl
theorem j_mr:mapsRowed Tryz.prog=true:=by kernel_rfl
theorem j_par:Tryz.f7.params.all (Tryz.prog.readableRec ·)=true:=by kernel_rfl
theorem j_tie:namedTie Tryz.prog Rows.settlementSummaryRow.named Rows.settlementSummarySpec.vars=true:=by kernel_rfl
theorem j_s1:(Rows.settlementSummaryRow.stops == [])=true:=by kernel_rfl
theorem j_s2:(Tryz.prog.stops == [])=true:=by kernel_rfl
theorem j_s3:(Rows.settlementSummaryRow.knobs == [])=true:=by kernel_rfl
theorem j_s4:(Tryz.prog.stopKnobs == [])=true:=by kernel_rfl
theorem j_m1:(Rows.settlementSummaryRow.maps == (Tryz.f7.params.toList ++ Rows.settlementSummarySpec.plain.varTypes Tryz.prog).any (Tryz.prog.mapsRec ·))=true:=by kernel_rfl
theorem j_m2:(Rows.settlementSummaryRow.ifaces == (Tryz.f7.params.toList ++ Rows.settlementSummarySpec.plain.varTypes Tryz.prog).any (Tryz.prog.ifacesRec ·))=true:=by kernel_rfl
theorem j_m3:(Rows.settlementSummaryRow.mapsOut == Tryz.prog.mapsAmong Tryz.f7.resultTypes.toList)=true:=by kernel_rfl
theorem j_l1:(Rows.settlementSummaryRow.loops == (Tryz.f7.params.toList ++ Rows.settlementSummarySpec.plain.varTypes Tryz.prog).any (Tryz.prog.loopsFrom ·))=true:=by kernel_rfl
theorem j_w1:(Rows.settlementSummaryRow.wideKeys == (Tryz.f7.params.toList ++ Rows.settlementSummarySpec.plain.varTypes Tryz.prog ++ Tryz.f7.resultTypes.toList).any (Tryz.prog.wideKeysFrom ·))=true:=by kernel_rfl
theorem j_va:Rows.settlementSummarySpec.vars.all (Tryz.prog.varReadable ·)=true:=by kernel_rfl
theorem j_re:Tryz.f7.resultTypes.all (λt => Tryz.prog.readableRec t && decide (t < Tryz.prog.types.size))=true:=by kernel_rfl
theorem j_io:(Rows.settlementSummaryRow.ifacesOut == Tryz.f7.resultTypes.toList.any (Tryz.prog.ifacesRec ·))=true:=by kernel_rfl
theorem j_lp:(Rows.settlementSummaryRow.loopsOut == Tryz.f7.resultTypes.toList.any (Tryz.prog.loopsFrom ·))=true:=by kernel_rfl
theorem j_pk:(Rows.settlementSummaryRow.plainKeys == Tryz.prog.plainKeys)=true:=by kernel_rfl
theorem j_st:Rows.settlementSummaryRow.shortTexts.isNone=true:=by kernel_rfl
theorem j_sh:Tryz.prog.stopsHeard=true:=by kernel_rfl
theorem j_me:Tryz.prog.mayEnter=true:=by kernel_rfl
theorem j_li:(Rows.settlementSummaryRow.lifted == Tryz.prog.liftsFinal)=true:=by kernel_rfl
theorem j_mk:(Tryz.prog.make == some Rows.settlementSummaryRow.make)=true:=by kernel_rfl
theorem j_pi:(Rows.settlementSummaryRow.pinned == Rows.settlementSummaryRow.pinnedBy)=true:=by kernel_rfl
theorem j_v1:(Rows.settlementSummaryRow.veiled == (Tryz.f7.params.toList ++ Rows.settlementSummarySpec.plain.varTypes Tryz.prog ++ Tryz.f7.resultTypes.toList).any (Tryz.prog.veiledRec ·))=true:=by kernel_rfl
theorem j_v2:Rows.settlementSummaryRow.veiledFits Tryz.prog Tryz.f7.params.toList (Tryz.f7.params.toList ++ Rows.settlementSummarySpec.plain.varTypes Tryz.prog ++ Tryz.f7.resultTypes.toList)=true:=by kernel_rfl
theorem jf:joinedFacts Tryz.prog 7 Tryz.f7 Rows.settlementSummarySpec Rows.settlementSummaryRow=true:=by
 unfold joinedFacts;rw [j_wf,j_lo,j_mr,j_par,j_tie,j_s1,j_s2,j_s3,j_s4,j_inp,j_unf,j_rec,j_nam,j_m1,j_m2,j_m3,j_l1,j_w1,j_va,j_re,j_io,j_lp,j_pk,j_st,j_sh,j_me,j_li,j_mk,j_pi,j_v1,j_v2];kernel_rfl
end Go.Proofs.YtmhfebelfmgckaaGreatDoor
