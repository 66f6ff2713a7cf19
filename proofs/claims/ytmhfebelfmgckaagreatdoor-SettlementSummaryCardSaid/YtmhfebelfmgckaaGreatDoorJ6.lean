/-
  Closed facts of the row of the statement, by the kernel: no condition.
-/
import Derived.Test.YtmhfebelfmgckaaGreatDoorRows
import Derived.WalkKit
import Derived.ProofKit
import Derived.SevenTiedAt
import GoSem.ClaimSeven
namespace Go.Proofs.YtmhfebelfmgckaaGreatDoor
theorem gg:Tryz.prog.funcs.any Func.goes=false:=by kernel_rfl
theorem gn{P:Program}(h:P.funcs.any Func.goes=false)(c:OpenClaim):c.goesBy P=false:=by
 have h1:∀ g:Nat,(P.funcs[g]?).any Func.goes=false:=λg=>by
  cases e:P.funcs[g]? with
  | none=>rfl
  | some x=>
   rw [Array.any_eq_false] at h
   obtain ⟨q,rfl⟩:=Array.getElem?_eq_some_iff.1 e
   simpa using h g q
 have h2:∀ f,P.goes f=false:=λf=>by
  unfold Program.goes
  rw [h,Bool.and_false,Bool.or_false,List.any_eq_false]
  intro g _
  rw [h1 g]
  simp
 unfold OpenClaim.goesBy Program.goesAt Program.goesFrom
 have h3:(P.funcNamed c.func).any P.goes=false:=by cases P.funcNamed c.func<;>simp [h2]
 rw [h3]
 cases c.start<;>simp [h2]
theorem g4:false=Rows.settlementSummaryRow.goesBy Tryz.prog:=(gn gg _).symm
end Go.Proofs.YtmhfebelfmgckaaGreatDoor
