/-
  Closed facts of the row of the statement, by the kernel: no condition.
-/
import Derived.Test.YtjiaejcpmcknnaaGreatDoorRows
import Derived.WalkKit
import Derived.ProofKit
import Derived.JoinedOf
import Derived.Test.YtjiaejcpmcknnaaGreatDoorJ0
import Derived.Test.YtjiaejcpmcknnaaGreatDoorJ1
import Derived.Test.YtjiaejcpmcknnaaGreatDoorJ2
import Derived.Test.YtjiaejcpmcknnaaGreatDoorJ3
namespace Go.Proofs.YtjiaejcpmcknnaaGreatDoor
theorem j_wf:Rows.deadrulesLiveRow.wf (OpenSpec.ofChange Rows.deadrulesLiveSpec)=true:=by kernel_rfl
theorem j_lo:laidOutB Tryz.prog=true:=by kernel_rfl
theorem j_mr:mapsRowed Tryz.prog=true:=by kernel_rfl
theorem j_par:Tryz.f7.params.all (Tryz.prog.readableRec ·)=true:=by kernel_rfl
theorem j_tie:namedTie Tryz.prog Rows.deadrulesLiveRow.named Rows.deadrulesLiveSpec.vars=true:=by kernel_rfl
theorem j_s1:(Rows.deadrulesLiveRow.stops == [])=true:=by kernel_rfl
theorem j_s2:(Tryz.prog.stops == [])=true:=by kernel_rfl
theorem j_s3:(Rows.deadrulesLiveRow.knobs == [])=true:=by kernel_rfl
theorem j_s4:(Tryz.prog.stopKnobs == [])=true:=by kernel_rfl
theorem j_m1:(Rows.deadrulesLiveRow.maps == (Tryz.f7.params.toList ++ Rows.deadrulesLiveSpec.plain.varTypes Tryz.prog).any (Tryz.prog.mapsRec ·))=true:=by kernel_rfl
theorem j_m2:(Rows.deadrulesLiveRow.ifaces == (Tryz.f7.params.toList ++ Rows.deadrulesLiveSpec.plain.varTypes Tryz.prog).any (Tryz.prog.ifacesRec ·))=true:=by kernel_rfl
theorem j_m3:(Rows.deadrulesLiveRow.mapsOut == Tryz.prog.mapsAmong Tryz.f7.resultTypes.toList)=true:=by kernel_rfl
theorem j_l1:(Rows.deadrulesLiveRow.loops == (Tryz.f7.params.toList ++ Rows.deadrulesLiveSpec.plain.varTypes Tryz.prog).any (Tryz.prog.loopsFrom ·))=true:=by kernel_rfl
theorem j_w1:(Rows.deadrulesLiveRow.wideKeys == (Tryz.f7.params.toList ++ Rows.deadrulesLiveSpec.plain.varTypes Tryz.prog ++ Tryz.f7.resultTypes.toList).any (Tryz.prog.wideKeysFrom ·))=true:=by kernel_rfl
theorem j_va:Rows.deadrulesLiveSpec.vars.all (Tryz.prog.varReadable ·)=true:=by kernel_rfl
theorem j_re:Tryz.f7.resultTypes.all (λt => Tryz.prog.readableRec t && decide (t < Tryz.prog.types.size))=true:=by kernel_rfl
theorem j_io:(Rows.deadrulesLiveRow.ifacesOut == Tryz.f7.resultTypes.toList.any (Tryz.prog.ifacesRec ·))=true:=by kernel_rfl
theorem j_lp:(Rows.deadrulesLiveRow.loopsOut == Tryz.f7.resultTypes.toList.any (Tryz.prog.loopsFrom ·))=true:=by kernel_rfl
theorem j_pk:(Rows.deadrulesLiveRow.plainKeys == Tryz.prog.plainKeys)=true:=by kernel_rfl
theorem j_st:Rows.deadrulesLiveRow.shortTexts.isNone=true:=by kernel_rfl
theorem j_sh:Tryz.prog.stopsHeard=true:=by kernel_rfl
theorem j_me:Tryz.prog.mayEnter=true:=by kernel_rfl
theorem j_li:(Rows.deadrulesLiveRow.lifted == Tryz.prog.liftsFinal)=true:=by kernel_rfl
theorem j_mk:(Tryz.prog.make == some Rows.deadrulesLiveRow.make)=true:=by kernel_rfl
theorem j_pi:(Rows.deadrulesLiveRow.pinned == Rows.deadrulesLiveRow.pinnedBy)=true:=by kernel_rfl
theorem j_v1:(Rows.deadrulesLiveRow.veiled == (Tryz.f7.params.toList ++ Rows.deadrulesLiveSpec.plain.varTypes Tryz.prog ++ Tryz.f7.resultTypes.toList).any (Tryz.prog.veiledRec ·))=true:=by kernel_rfl
theorem j_v2:Rows.deadrulesLiveRow.veiledFits Tryz.prog Tryz.f7.params.toList (Tryz.f7.params.toList ++ Rows.deadrulesLiveSpec.plain.varTypes Tryz.prog ++ Tryz.f7.resultTypes.toList)=true:=by kernel_rfl
theorem jf:joinedFacts Tryz.prog 7 Tryz.f7 Rows.deadrulesLiveSpec Rows.deadrulesLiveRow=true:=by
 unfold joinedFacts;rw [j_wf,j_lo,j_mr,j_par,j_tie,j_s1,j_s2,j_s3,j_s4,j_inp,j_unf,j_rec,j_nam,j_m1,j_m2,j_m3,j_l1,j_w1,j_va,j_re,j_io,j_lp,j_pk,j_st,j_sh,j_me,j_li,j_mk,j_pi,j_v1,j_v2];kernel_rfl
end Go.Proofs.YtjiaejcpmcknnaaGreatDoor
