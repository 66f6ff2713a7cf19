/-
  Closed facts of the row of the statement, by the kernel: no condition.
-/
import Derived.Test.YtjjfnbpfgfopbaaGreatDoorRows
import Derived.WalkKit
import Derived.ProofKit
import Derived.JoinedOf
import Derived.Test.YtjjfnbpfgfopbaaGreatDoorJ0
import Derived.Test.YtjjfnbpfgfopbaaGreatDoorJ1
import Derived.Test.YtjjfnbpfgfopbaaGreatDoorJ2
import Derived.Test.YtjjfnbpfgfopbaaGreatDoorJ3
namespace Go.Proofs.YtjjfnbpfgfopbaaGreatDoor
theorem j_wf:Rows.settlementAwardsRow.wf (OpenSpec.ofChange Rows.settlementAwardsSpec)=true:=by kernel_rfl
theorem j_lo:laidOutB Tryz.prog=true:=by kernel_rfl
theorem j_mr:mapsRowed Tryz.prog=true:=by kernel_rfl
theorem j_par:Tryz.f6.params.all (Tryz.prog.readableRec ·)=true:=by kernel_rfl
theorem j_tie:namedTie Tryz.prog Rows.settlementAwardsRow.named Rows.settlementAwardsSpec.vars=true:=by kernel_rfl
theorem j_s1:(Rows.settlementAwardsRow.stops == [])=true:=by kernel_rfl
theorem j_s2:(Tryz.prog.stops == [])=true:=by kernel_rfl
theorem j_s3:(Rows.settlementAwardsRow.knobs == [])=true:=by kernel_rfl
theorem j_s4:(Tryz.prog.stopKnobs == [])=true:=by kernel_rfl
theorem j_m1:(Rows.settlementAwardsRow.maps == (Tryz.f6.params.toList ++ Rows.settlementAwardsSpec.plain.varTypes Tryz.prog).any (Tryz.prog.mapsRec ·))=true:=by kernel_rfl
theorem j_m2:(Rows.settlementAwardsRow.ifaces == (Tryz.f6.params.toList ++ Rows.settlementAwardsSpec.plain.varTypes Tryz.prog).any (Tryz.prog.ifacesRec ·))=true:=by kernel_rfl
theorem j_m3:(Rows.settlementAwardsRow.mapsOut == Tryz.prog.mapsAmong Tryz.f6.resultTypes.toList)=true:=by kernel_rfl
theorem j_l1:(Rows.settlementAwardsRow.loops == (Tryz.f6.params.toList ++ Rows.settlementAwardsSpec.plain.varTypes Tryz.prog).any (Tryz.prog.loopsFrom ·))=true:=by kernel_rfl
theorem j_w1:(Rows.settlementAwardsRow.wideKeys == (Tryz.f6.params.toList ++ Rows.settlementAwardsSpec.plain.varTypes Tryz.prog ++ Tryz.f6.resultTypes.toList).any (Tryz.prog.wideKeysFrom ·))=true:=by kernel_rfl
theorem j_va:Rows.settlementAwardsSpec.vars.all (Tryz.prog.varReadable ·)=true:=by kernel_rfl
theorem j_re:Tryz.f6.resultTypes.all (λt => Tryz.prog.readableRec t && decide (t < Tryz.prog.types.size))=true:=by kernel_rfl
theorem j_io:(Rows.settlementAwardsRow.ifacesOut == Tryz.f6.resultTypes.toList.any (Tryz.prog.ifacesRec ·))=true:=by kernel_rfl
theorem j_lp:(Rows.settlementAwardsRow.loopsOut == Tryz.f6.resultTypes.toList.any (Tryz.prog.loopsFrom ·))=true:=by kernel_rfl
theorem j_pk:(Rows.settlementAwardsRow.plainKeys == Tryz.prog.plainKeys)=true:=by kernel_rfl
theorem j_st:Rows.settlementAwardsRow.shortTexts.isNone=true:=by kernel_rfl
theorem j_sh:Tryz.prog.stopsHeard=true:=by kernel_rfl
theorem j_me:Tryz.prog.mayEnter=true:=by kernel_rfl
theorem j_li:(Rows.settlementAwardsRow.lifted == Tryz.prog.liftsFinal)=true:=by kernel_rfl
theorem j_mk:(Tryz.prog.make == some Rows.settlementAwardsRow.make)=true:=by kernel_rfl
theorem j_pi:(Rows.settlementAwardsRow.pinned == Rows.settlementAwardsRow.pinnedBy)=true:=by kernel_rfl
theorem j_v1:(Rows.settlementAwardsRow.veiled == (Tryz.f6.params.toList ++ Rows.settlementAwardsSpec.plain.varTypes Tryz.prog ++ Tryz.f6.resultTypes.toList).any (Tryz.prog.veiledRec ·))=true:=by kernel_rfl
theorem j_v2:Rows.settlementAwardsRow.veiledFits Tryz.prog Tryz.f6.params.toList (Tryz.f6.params.toList ++ Rows.settlementAwardsSpec.plain.varTypes Tryz.prog ++ Tryz.f6.resultTypes.toList)=true:=by kernel_rfl
theorem jf:joinedFacts Tryz.prog 6 Tryz.f6 Rows.settlementAwardsSpec Rows.settlementAwardsRow=true:=by
 unfold joinedFacts;rw [j_wf,j_lo,j_mr,j_par,j_tie,j_s1,j_s2,j_s3,j_s4,j_inp,j_unf,j_rec,j_nam,j_m1,j_m2,j_m3,j_l1,j_w1,j_va,j_re,j_io,j_lp,j_pk,j_st,j_sh,j_me,j_li,j_mk,j_pi,j_v1,j_v2];kernel_rfl
end Go.Proofs.YtjjfnbpfgfopbaaGreatDoor
