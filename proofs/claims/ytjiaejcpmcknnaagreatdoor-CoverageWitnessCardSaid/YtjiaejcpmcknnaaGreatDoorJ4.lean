/-
  Closed facts of the row of the statement, by the kernel: no condition.
-/
import Derived.Test.YtjiaejcpmcknnaaGreatDoorRows
import Derived.WalkKit
import Derived.ProofKit
import Derived.JoinedOf
import Derived.Test.YtjiaejcpmcknnaaGreatDoorJ0
import Derived.Test.YtjiaejcpmcknnaaGreatDoorJ1
import Derived.Test.YtjiaejcpmcknnaaGreatDoorJ2
import Derived.Test.YtjiaejcpmcknnaaGreatDoorJ3
namespace Go.Proofs.YtjiaejcpmcknnaaGreatDoor
theorem j_wf:Rows.coverageWitnessRow.wf (OpenSpec.ofChange Rows.coverageWitnessSpec)=true:=by kernel_rfl
theorem j_lo:laidOutB Tryz.prog=true:=by kernel_rfl
theorem j_mr:mapsRowed Tryz.prog=true:=by kernel_rfl
theorem j_par:Tryz.f4.params.all (Tryz.prog.readableRec ·)=true:=by kernel_rfl
theorem j_tie:namedTie Tryz.prog Rows.coverageWitnessRow.named Rows.coverageWitnessSpec.vars=true:=by kernel_rfl
theorem j_s1:(Rows.coverageWitnessRow.stops == [])=true:=by kernel_rfl
theorem j_s2:(Tryz.prog.stops == [])=true:=by kernel_rfl
theorem j_s3:(Rows.coverageWitnessRow.knobs == [])=true:=by kernel_rfl
theorem j_s4:(Tryz.prog.stopKnobs == [])=true:=by kernel_rfl
theorem j_m1:(Rows.coverageWitnessRow.maps == (Tryz.f4.params.toList ++ Rows.coverageWitnessSpec.plain.varTypes Tryz.prog).any (Tryz.prog.mapsRec ·))=true:=by kernel_rfl
theorem j_m2:(Rows.coverageWitnessRow.ifaces == (Tryz.f4.params.toList ++ Rows.coverageWitnessSpec.plain.varTypes Tryz.prog).any (Tryz.prog.ifacesRec ·))=true:=by kernel_rfl
theorem j_m3:(Rows.coverageWitnessRow.mapsOut == Tryz.prog.mapsAmong Tryz.f4.resultTypes.toList)=true:=by kernel_rfl
theorem j_l1:(Rows.coverageWitnessRow.loops == (Tryz.f4.params.toList ++ Rows.coverageWitnessSpec.plain.varTypes Tryz.prog).any (Tryz.prog.loopsFrom ·))=true:=by kernel_rfl
theorem j_w1:(Rows.coverageWitnessRow.wideKeys == (Tryz.f4.params.toList ++ Rows.coverageWitnessSpec.plain.varTypes Tryz.prog ++ Tryz.f4.resultTypes.toList).any (Tryz.prog.wideKeysFrom ·))=true:=by kernel_rfl
theorem j_va:Rows.coverageWitnessSpec.vars.all (Tryz.prog.varReadable ·)=true:=by kernel_rfl
theorem j_re:Tryz.f4.resultTypes.all (λt => Tryz.prog.readableRec t && decide (t < Tryz.prog.types.size))=true:=by kernel_rfl
theorem j_io:(Rows.coverageWitnessRow.ifacesOut == Tryz.f4.resultTypes.toList.any (Tryz.prog.ifacesRec ·))=true:=by kernel_rfl
theorem j_lp:(Rows.coverageWitnessRow.loopsOut == Tryz.f4.resultTypes.toList.any (Tryz.prog.loopsFrom ·))=true:=by kernel_rfl
theorem j_pk:(Rows.coverageWitnessRow.plainKeys == Tryz.prog.plainKeys)=true:=by kernel_rfl
theorem j_st:Rows.coverageWitnessRow.shortTexts.isNone=true:=by kernel_rfl
theorem j_sh:Tryz.prog.stopsHeard=true:=by kernel_rfl
theorem j_me:Tryz.prog.mayEnter=true:=by kernel_rfl
theorem j_li:(Rows.coverageWitnessRow.lifted == Tryz.prog.liftsFinal)=true:=by kernel_rfl
theorem j_mk:(Tryz.prog.make == some Rows.coverageWitnessRow.make)=true:=by kernel_rfl
theorem j_pi:(Rows.coverageWitnessRow.pinned == Rows.coverageWitnessRow.pinnedBy)=true:=by kernel_rfl
theorem j_v1:(Rows.coverageWitnessRow.veiled == (Tryz.f4.params.toList ++ Rows.coverageWitnessSpec.plain.varTypes Tryz.prog ++ Tryz.f4.resultTypes.toList).any (Tryz.prog.veiledRec ·))=true:=by kernel_rfl
theorem j_v2:Rows.coverageWitnessRow.veiledFits Tryz.prog Tryz.f4.params.toList (Tryz.f4.params.toList ++ Rows.coverageWitnessSpec.plain.varTypes Tryz.prog ++ Tryz.f4.resultTypes.toList)=true:=by kernel_rfl
theorem jf:joinedFacts Tryz.prog 4 Tryz.f4 Rows.coverageWitnessSpec Rows.coverageWitnessRow=true:=by
 unfold joinedFacts;rw [j_wf,j_lo,j_mr,j_par,j_tie,j_s1,j_s2,j_s3,j_s4,j_inp,j_unf,j_rec,j_nam,j_m1,j_m2,j_m3,j_l1,j_w1,j_va,j_re,j_io,j_lp,j_pk,j_st,j_sh,j_me,j_li,j_mk,j_pi,j_v1,j_v2];kernel_rfl
end Go.Proofs.YtjiaejcpmcknnaaGreatDoor
