/-
  Closed facts of the row of the statement, by the kernel: no condition.
-/
import Derived.Test.YtkmalfincghanaaGreatDoorRows
import Derived.WalkKit
import Derived.ProofKit
import Derived.JoinedOf
import Derived.Test.YtkmalfincghanaaGreatDoorJ0
import Derived.Test.YtkmalfincghanaaGreatDoorJ1
import Derived.Test.YtkmalfincghanaaGreatDoorJ2
import Derived.Test.YtkmalfincghanaaGreatDoorJ3
namespace Go.Proofs.YtkmalfincghanaaGreatDoor
theorem j_wf:Rows.awardUnchangedMonthRow.wf (OpenSpec.ofChange Rows.awardUnchangedMonthSpec)=true:=by kernel_rfl
theorem j_lo:laidOutB Tryz.prog=true:=by kernel_rfl
theorem j_mr:mapsRowed Tryz.prog=true:=by kernel_rfl
theorem j_par:Tryz.f6.params.all (Tryz.prog.readableRec ·)=true:=by kernel_rfl
theorem j_tie:namedTie Tryz.prog Rows.awardUnchangedMonthRow.named Rows.awardUnchangedMonthSpec.vars=true:=by kernel_rfl
theorem j_s1:(Rows.awardUnchangedMonthRow.stops == [])=true:=by kernel_rfl
theorem j_s2:(Tryz.prog.stops == [])=true:=by kernel_rfl
theorem j_s3:(Rows.awardUnchangedMonthRow.knobs == [])=true:=by kernel_rfl
theorem j_s4:(Tryz.prog.stopKnobs == [])=true:=by kernel_rfl
theorem j_m1:(Rows.awardUnchangedMonthRow.maps == (Tryz.f6.params.toList ++ Rows.awardUnchangedMonthSpec.plain.varTypes Tryz.prog).any (Tryz.prog.mapsRec ·))=true:=by kernel_rfl
theorem j_m2:(Rows.awardUnchangedMonthRow.ifaces == (Tryz.f6.params.toList ++ Rows.awardUnchangedMonthSpec.plain.varTypes Tryz.prog).any (Tryz.prog.ifacesRec ·))=true:=by kernel_rfl
theorem j_m3:(Rows.awardUnchangedMonthRow.mapsOut == Tryz.prog.mapsAmong Tryz.f6.resultTypes.toList)=true:=by kernel_rfl
theorem j_l1:(Rows.awardUnchangedMonthRow.loops == (Tryz.f6.params.toList ++ Rows.awardUnchangedMonthSpec.plain.varTypes Tryz.prog).any (Tryz.prog.loopsFrom ·))=true:=by kernel_rfl
theorem j_w1:(Rows.awardUnchangedMonthRow.wideKeys == (Tryz.f6.params.toList ++ Rows.awardUnchangedMonthSpec.plain.varTypes Tryz.prog ++ Tryz.f6.resultTypes.toList).any (Tryz.prog.wideKeysFrom ·))=true:=by kernel_rfl
theorem j_va:Rows.awardUnchangedMonthSpec.vars.all (Tryz.prog.varReadable ·)=true:=by kernel_rfl
theorem j_re:Tryz.f6.resultTypes.all (fun t => Tryz.prog.readableRec t && decide (t < Tryz.prog.types.size))=true:=by kernel_rfl
theorem j_io:(Rows.awardUnchangedMonthRow.ifacesOut == Tryz.f6.resultTypes.toList.any (Tryz.prog.ifacesRec ·))=true:=by kernel_rfl
theorem j_lp:(Rows.awardUnchangedMonthRow.loopsOut == Tryz.f6.resultTypes.toList.any (Tryz.prog.loopsFrom ·))=true:=by kernel_rfl
theorem j_pk:(Rows.awardUnchangedMonthRow.plainKeys == Tryz.prog.plainKeys)=true:=by kernel_rfl
theorem j_st:Rows.awardUnchangedMonthRow.shortTexts.isNone=true:=by kernel_rfl
theorem j_sh:Tryz.prog.stopsHeard=true:=by kernel_rfl
theorem j_me:Tryz.prog.mayEnter=true:=by kernel_rfl
theorem j_li:(Rows.awardUnchangedMonthRow.lifted == Tryz.prog.liftsFinal)=true:=by kernel_rfl
theorem j_mk:(Tryz.prog.make == some Rows.awardUnchangedMonthRow.make)=true:=by kernel_rfl
theorem j_pi:(Rows.awardUnchangedMonthRow.pinned == Rows.awardUnchangedMonthRow.pinnedBy)=true:=by kernel_rfl
theorem j_v1:(Rows.awardUnchangedMonthRow.veiled == (Tryz.f6.params.toList ++ Rows.awardUnchangedMonthSpec.plain.varTypes Tryz.prog ++ Tryz.f6.resultTypes.toList).any (Tryz.prog.veiledRec ·))=true:=by kernel_rfl
theorem j_v2:Rows.awardUnchangedMonthRow.veiledFits Tryz.prog Tryz.f6.params.toList (Tryz.f6.params.toList ++ Rows.awardUnchangedMonthSpec.plain.varTypes Tryz.prog ++ Tryz.f6.resultTypes.toList)=true:=by kernel_rfl
theorem jf:joinedFacts Tryz.prog 6 Tryz.f6 Rows.awardUnchangedMonthSpec Rows.awardUnchangedMonthRow=true:=by
 unfold joinedFacts;rw [j_wf,j_lo,j_mr,j_par,j_tie,j_s1,j_s2,j_s3,j_s4,j_inp,j_unf,j_rec,j_nam,j_m1,j_m2,j_m3,j_l1,j_w1,j_va,j_re,j_io,j_lp,j_pk,j_st,j_sh,j_me,j_li,j_mk,j_pi,j_v1,j_v2];kernel_rfl
end Go.Proofs.YtkmalfincghanaaGreatDoor
