/-
  Closed facts of the row of the statement, by the kernel: no condition.
-/
import Derived.Test.YtkmalfincghanaaGreatDoorRows
import Derived.WalkKit
import Derived.ProofKit
import Derived.JoinedOf
import Derived.Test.YtkmalfincghanaaGreatDoorJ0
import Derived.Test.YtkmalfincghanaaGreatDoorJ1
import Derived.Test.YtkmalfincghanaaGreatDoorJ2
import Derived.Test.YtkmalfincghanaaGreatDoorJ3
namespace Go.Proofs.YtkmalfincghanaaGreatDoor
theorem j_wf:Rows.awardForMonthsRow.wf (OpenSpec.ofChange Rows.awardForMonthsSpec)=true:=by kernel_rfl
theorem j_lo:laidOutB Tryz.prog=true:=by kernel_rfl
theorem j_mr:mapsRowed Tryz.prog=true:=by kernel_rfl
theorem j_par:Tryz.f8.params.all (Tryz.prog.readableRec ·)=true:=by kernel_rfl
theorem j_tie:namedTie Tryz.prog Rows.awardForMonthsRow.named Rows.awardForMonthsSpec.vars=true:=by kernel_rfl
theorem j_s1:(Rows.awardForMonthsRow.stops == [])=true:=by kernel_rfl
theorem j_s2:(Tryz.prog.stops == [])=true:=by kernel_rfl
theorem j_s3:(Rows.awardForMonthsRow.knobs == [])=true:=by kernel_rfl
theorem j_s4:(Tryz.prog.stopKnobs == [])=true:=by kernel_rfl
theorem j_m1:(Rows.awardForMonthsRow.maps == (Tryz.f8.params.toList ++ Rows.awardForMonthsSpec.plain.varTypes Tryz.prog).any (Tryz.prog.mapsRec ·))=true:=by kernel_rfl
theorem j_m2:(Rows.awardForMonthsRow.ifaces == (Tryz.f8.params.toList ++ Rows.awardForMonthsSpec.plain.varTypes Tryz.prog).any (Tryz.prog.ifacesRec ·))=true:=by kernel_rfl
theorem j_m3:(Rows.awardForMonthsRow.mapsOut == Tryz.prog.mapsAmong Tryz.f8.resultTypes.toList)=true:=by kernel_rfl
theorem j_l1:(Rows.awardForMonthsRow.loops == (Tryz.f8.params.toList ++ Rows.awardForMonthsSpec.plain.varTypes Tryz.prog).any (Tryz.prog.loopsFrom ·))=true:=by kernel_rfl
theorem j_w1:(Rows.awardForMonthsRow.wideKeys == (Tryz.f8.params.toList ++ Rows.awardForMonthsSpec.plain.varTypes Tryz.prog ++ Tryz.f8.resultTypes.toList).any (Tryz.prog.wideKeysFrom ·))=true:=by kernel_rfl
theorem j_va:Rows.awardForMonthsSpec.vars.all (Tryz.prog.varReadable ·)=true:=by kernel_rfl
theorem j_re:Tryz.f8.resultTypes.all (fun t => Tryz.prog.readableRec t && decide (t < Tryz.prog.types.size))=true:=by kernel_rfl
theorem j_io:(Rows.awardForMonthsRow.ifacesOut == Tryz.f8.resultTypes.toList.any (Tryz.prog.ifacesRec ·))=true:=by kernel_rfl
theorem j_lp:(Rows.awardForMonthsRow.loopsOut == Tryz.f8.resultTypes.toList.any (Tryz.prog.loopsFrom ·))=true:=by kernel_rfl
theorem j_pk:(Rows.awardForMonthsRow.plainKeys == Tryz.prog.plainKeys)=true:=by kernel_rfl
theorem j_st:Rows.awardForMonthsRow.shortTexts.isNone=true:=by kernel_rfl
theorem j_sh:Tryz.prog.stopsHeard=true:=by kernel_rfl
theorem j_me:Tryz.prog.mayEnter=true:=by kernel_rfl
theorem j_li:(Rows.awardForMonthsRow.lifted == Tryz.prog.liftsFinal)=true:=by kernel_rfl
theorem j_mk:(Tryz.prog.make == some Rows.awardForMonthsRow.make)=true:=by kernel_rfl
theorem j_pi:(Rows.awardForMonthsRow.pinned == Rows.awardForMonthsRow.pinnedBy)=true:=by kernel_rfl
theorem j_v1:(Rows.awardForMonthsRow.veiled == (Tryz.f8.params.toList ++ Rows.awardForMonthsSpec.plain.varTypes Tryz.prog ++ Tryz.f8.resultTypes.toList).any (Tryz.prog.veiledRec ·))=true:=by kernel_rfl
theorem j_v2:Rows.awardForMonthsRow.veiledFits Tryz.prog Tryz.f8.params.toList (Tryz.f8.params.toList ++ Rows.awardForMonthsSpec.plain.varTypes Tryz.prog ++ Tryz.f8.resultTypes.toList)=true:=by kernel_rfl
theorem jf:joinedFacts Tryz.prog 8 Tryz.f8 Rows.awardForMonthsSpec Rows.awardForMonthsRow=true:=by
 unfold joinedFacts;rw [j_wf,j_lo,j_mr,j_par,j_tie,j_s1,j_s2,j_s3,j_s4,j_inp,j_unf,j_rec,j_nam,j_m1,j_m2,j_m3,j_l1,j_w1,j_va,j_re,j_io,j_lp,j_pk,j_st,j_sh,j_me,j_li,j_mk,j_pi,j_v1,j_v2];kernel_rfl
end Go.Proofs.YtkmalfincghanaaGreatDoor
