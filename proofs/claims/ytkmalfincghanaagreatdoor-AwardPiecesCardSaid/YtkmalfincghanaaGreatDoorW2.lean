/-
  A part of the fixed example, by the kernel: no condition.
-/
import Derived.Test.YtkmalfincghanaaGreatDoorW1
import Derived.Test.YtkmalfincghanaaGreatDoorC0
import Derived.Test.YtkmalfincghanaaGreatDoorC1
import Derived.Test.YtkmalfincghanaaGreatDoorC2
import Derived.Test.YtkmalfincghanaaGreatDoorC3
set_option linter.all false
set_option maxRecDepth 100000
set_option maxHeartbeats 4000000
namespace Go.Proofs.Dev
open Go Go.Tm
def mdp0 (k:Nat):Nat:=bif Nat.beq k 271 then 3 else 0
def orcp0 (k:Nat) (ds:List D):Option D:=bif Nat.beq k 271 then conD ds else none
theorem saidp0:SaidOk Tryz.prog mdp0 orcp0:=by
 intro k hk ds d m h;unfold orcp0 at h
 cases h0:Nat.beq k 271 with
 |true=>simp only [h0,cond_true,cond_false]at h;rw [Nat.eq_of_beq_eq_true h0];exact said_con h m
 |false=>
  simp only [h0,cond_false]at h;cases h
def a0_0:List D:=[.agg [.v (.slice none 0 0),.v (.slice none 0 0),.sl 5 [.agg [.v (.string ⟨#[104,111,117,115,101]⟩),.v (.int .i64 (-1)),.sl 3 [.agg [.v (.string ⟨#[97]⟩),.v (.int .i64 3),.v (.int .i64 0)]],.sl 3 [.agg [.v (.string ⟨#[100]⟩),.v (.int .i64 3),.v (.int .i64 0)]],.sl 9 [.agg [.v (.string ⟨#[98,97,115,101]⟩),.v (.int .i64 0),.v (.int .i64 (-1)),.v (.int .i64 0),.v (.int .i64 0),.v (.int .i64 109573),.v (.slice none 0 0),.sl 2 [.agg [.v (.int .i64 7),.v (.int .i64 0)]],.v (.string ⟨#[]⟩)]]]]]]
def r0_0:D:=.agg [.v (.int .i64 0),.v (.int .i64 0),.v (.int .i64 0),.v (.int .i64 0)]
theorem c0_0 (m:List Ent):CallT Tryz.prog 66 a0_0 m fun d' m'=>d'=r0_0∧m'=m:=call_runPK hmix tab_ok saidp0 3000 (by kernel_rfl) m
def ans0 (ds:List D):Option D:=bif eqDs ds a0_0 then some r0_0 else none
theorem said_ans0 {ds:List D}{d:D}(h:ans0 ds=some d) (m:List Ent):CallT Tryz.prog 66 ds m fun d' m'=>d'=d∧m'=m:=by
 unfold ans0 at h
 cases e0:eqDs ds a0_0 with
 |true=>simp only [e0,cond_true,cond_false,Option.some.injEq]at h;subst h;rw [eqDs_eq e0];exact c0_0 m
 |false=>
  simp only [e0,cond_false]at h;cases h
end Go.Proofs.Dev
