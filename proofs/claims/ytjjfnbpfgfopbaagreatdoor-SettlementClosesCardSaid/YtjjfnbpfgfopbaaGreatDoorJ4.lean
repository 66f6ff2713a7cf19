/-
  Closed facts of the row of the statement, by the kernel: no condition.
-/
import Derived.Test.YtjjfnbpfgfopbaaGreatDoorRows
import Derived.WalkKit
import Derived.ProofKit
import Derived.JoinedOf
import Derived.Test.YtjjfnbpfgfopbaaGreatDoorJ0
import Derived.Test.YtjjfnbpfgfopbaaGreatDoorJ1
import Derived.Test.YtjjfnbpfgfopbaaGreatDoorJ2
import Derived.Test.YtjjfnbpfgfopbaaGreatDoorJ3
namespace Go.Proofs.YtjjfnbpfgfopbaaGreatDoor
theorem j_wf:Rows.settlementClosesRow.wf (OpenSpec.ofChange Rows.settlementClosesSpec)=true:=by kernel_rfl
theorem j_lo:laidOutB Tryz.prog=true:=by kernel_rfl
theorem j_mr:mapsRowed Tryz.prog=true:=by kernel_rfl
theorem j_par:Tryz.f5.params.all (Tryz.prog.readableRec ·)=true:=by kernel_rfl
theorem j_tie:namedTie Tryz.prog Rows.settlementClosesRow.named Rows.settlementClosesSpec.vars=true:=by kernel_rfl
theorem j_s1:(Rows.settlementClosesRow.stops == [])=true:=by kernel_rfl
theorem j_s2:(Tryz.prog.stops == [])=true:=by kernel_rfl
theorem j_s3:(Rows.settlementClosesRow.knobs == [])=true:=by kernel_rfl
theorem j_s4:(Tryz.prog.stopKnobs == [])=true:=by kernel_rfl
theorem j_m1:(Rows.settlementClosesRow.maps == (Tryz.f5.params.toList ++ Rows.settlementClosesSpec.plain.varTypes Tryz.prog).any (Tryz.prog.mapsRec ·))=true:=by kernel_rfl
theorem j_m2:(Rows.settlementClosesRow.ifaces == (Tryz.f5.params.toList ++ Rows.settlementClosesSpec.plain.varTypes Tryz.prog).any (Tryz.prog.ifacesRec ·))=true:=by kernel_rfl
theorem j_m3:(Rows.settlementClosesRow.mapsOut == Tryz.prog.mapsAmong Tryz.f5.resultTypes.toList)=true:=by kernel_rfl
theorem j_l1:(Rows.settlementClosesRow.loops == (Tryz.f5.params.toList ++ Rows.settlementClosesSpec.plain.varTypes Tryz.prog).any (Tryz.prog.loopsFrom ·))=true:=by kernel_rfl
theorem j_w1:(Rows.settlementClosesRow.wideKeys == (Tryz.f5.params.toList ++ Rows.settlementClosesSpec.plain.varTypes Tryz.prog ++ Tryz.f5.resultTypes.toList).any (Tryz.prog.wideKeysFrom ·))=true:=by kernel_rfl
theorem j_va:Rows.settlementClosesSpec.vars.all (Tryz.prog.varReadable ·)=true:=by kernel_rfl
theorem j_re:Tryz.f5.resultTypes.all (λt => Tryz.prog.readableRec t && decide (t < Tryz.prog.types.size))=true:=by kernel_rfl
theorem j_io:(Rows.settlementClosesRow.ifacesOut == Tryz.f5.resultTypes.toList.any (Tryz.prog.ifacesRec ·))=true:=by kernel_rfl
theorem j_lp:(Rows.settlementClosesRow.loopsOut == Tryz.f5.resultTypes.toList.any (Tryz.prog.loopsFrom ·))=true:=by kernel_rfl
theorem j_pk:(Rows.settlementClosesRow.plainKeys == Tryz.prog.plainKeys)=true:=by kernel_rfl
theorem j_st:Rows.settlementClosesRow.shortTexts.isNone=true:=by kernel_rfl
theorem j_sh:Tryz.prog.stopsHeard=true:=by kernel_rfl
theorem j_me:Tryz.prog.mayEnter=true:=by kernel_rfl
theorem j_li:(Rows.settlementClosesRow.lifted == Tryz.prog.liftsFinal)=true:=by kernel_rfl
theorem j_mk:(Tryz.prog.make == some Rows.settlementClosesRow.make)=true:=by kernel_rfl
theorem j_pi:(Rows.settlementClosesRow.pinned == Rows.settlementClosesRow.pinnedBy)=true:=by kernel_rfl
theorem j_v1:(Rows.settlementClosesRow.veiled == (Tryz.f5.params.toList ++ Rows.settlementClosesSpec.plain.varTypes Tryz.prog ++ Tryz.f5.resultTypes.toList).any (Tryz.prog.veiledRec ·))=true:=by kernel_rfl
theorem j_v2:Rows.settlementClosesRow.veiledFits Tryz.prog Tryz.f5.params.toList (Tryz.f5.params.toList ++ Rows.settlementClosesSpec.plain.varTypes Tryz.prog ++ Tryz.f5.resultTypes.toList)=true:=by kernel_rfl
theorem jf:joinedFacts Tryz.prog 5 Tryz.f5 Rows.settlementClosesSpec Rows.settlementClosesRow=true:=by
 unfold joinedFacts;rw [j_wf,j_lo,j_mr,j_par,j_tie,j_s1,j_s2,j_s3,j_s4,j_inp,j_unf,j_rec,j_nam,j_m1,j_m2,j_m3,j_l1,j_w1,j_va,j_re,j_io,j_lp,j_pk,j_st,j_sh,j_me,j_li,j_mk,j_pi,j_v1,j_v2];kernel_rfl
end Go.Proofs.YtjjfnbpfgfopbaaGreatDoor
