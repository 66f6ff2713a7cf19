import Derived.Test.YtmhfebelfmgckaaGreatDoorCards
import Derived.Test.YtmhfebelfmgckaaGreatDoorTie
import Derived.Test.YtmhfebelfmgckaaGreatDoorZ
import Derived.Test.YtmhfebelfmgckaaGreatDoorJ4
import Derived.Test.YtmhfebelfmgckaaGreatDoorJ5
import Derived.Test.YtmhfebelfmgckaaGreatDoorJ6
import Derived.WalkKit
import Derived.ProofKit
import Derived.OpenShut
import Derived.ChangeOld
import Derived.LaidMore
import Derived.Stop.Joined
import Derived.SevenTiedAt
import Derived.SizedLaws
import Derived.MakeChecks
set_option linter.all false
namespace Go.Proofs.YtmhfebelfmgckaaGreatDoor
namespace SettlementSummaryDone
open Go.ChangeShapes Go.WideShapes Go.ChangeAt Go.RowKit
open Go.Tm (CallT Gh VRel VsRel Inv Step shOf aggT LookV R0 GOK gtab arg_tree law_walk)
theorem own:ownKnob Tryz.prog.godebug=none:=by kernel_rfl
theorem laidOut:laidOutB Tryz.prog=true:=by kernel_rfl
def laidL {H:Type}:List (String×DataW H):=[("guerdon/date.monthLengths",Rows.laid_guerdon_date_monthLengths)]
theorem door_met (os:Os) (args:Array Value):laidMetH Tryz.prog laidL ((World.doorLaid Tryz.prog 400 os).forCall (λ_ _=>0) ⟨#[],args,[]⟩).memory:=
 laidMetH_of_parts3 (fuel:=8) (laidMet_of_run' 8 (by kernel_rfl) (by kernel_rfl)) (by kernel_rfl) (by kernel_rfl)
theorem shape0:shOf Tryz.prog 12 26=some Go.Proofs.Dev.shL:=by kernel_rfl
theorem agg0:aggT Tryz.prog 26=true:=by kernel_rfl
theorem shape1:shOf Tryz.prog 12 34=some Go.Proofs.Dev.shC:=by kernel_rfl
theorem agg1:aggT Tryz.prog 34=true:=by kernel_rfl
theorem shape2:shOf Tryz.prog 12 47=some Go.Proofs.Dev.shA:=by kernel_rfl
theorem agg2:aggT Tryz.prog 47=true:=by kernel_rfl
set_option maxRecDepth 100000
theorem lifted (os:Os) (started:os.Started) (H:Type) (enc:TypeId×Value->H) :
 ReturnsInHanded {} Tryz.checked os 7 .any (λw args=>(Rows.settlementSummarySpec.pre enc Tryz.prog Tryz.f7 [] false w args/\laidMetH Tryz.prog laidL w)/\sizedMet enc Tryz.prog Tryz.f7 (OpenSpec.ofChange Rows.settlementSummarySpec) false w args)
  (Rows.settlementSummarySpec.post enc Tryz.prog Tryz.f7 false true false false):=by
 refine returnsInHanded_of_change_and (C:=Tryz.checked) (X:=λw _=>laidMetH Tryz.prog laidL w) (λ_ _ _ hh h=>h.of_heap hh) own started (by kernel_rfl) Tryz.func7
  (ChangeSpec.witness_shaped (enc:=enc) (C:=Tryz.checked) (os:=os) (X:=λw _=>laidMetH Tryz.prog laidL w) false (World.doorLaid Tryz.prog 400 os) #[.agg #[.slice none 0 0,.slice none 0 0,.slice none 0 0],.agg #[.int .i64 0,.int .i64 0,.int .i64 0,.int .i64 0,.int .i64 0,.int .i64 0,.int .i64 0,.int .i64 0,.slice none 0 0],.agg #[.int .i64 0,.int .i64 0,.int .i64 0,.slice none 0 0,.slice none 0 0,.slice none 0 0,.int .i64 0,.int .i64 0]] 8 rfl (World.shaped_of_RefB (by kernel_rfl) (by kernel_rfl)) (by kernel_rfl) (by kernel_rfl) (by kernel_rfl) (door_met os _)) ?_
 intro W base args ds gs before hval0 hW _ hWt hL _
 have hval:∀(j:Nat) t v,Tryz.f7.params[j]?=some t->args[j]?=some v->Value.okWide Tryz.prog W .any base t v:=hval0
 have hW':=hW
 obtain⟨p,q,hA0,hV,rfl,hfz,hnd⟩:=hW
 have hA:DataW.TrodAll enc Tryz.prog W 0 (λ_=>true) true Tryz.f7.params.toList args.toList ds p:=hA0
 rw [Tryz.params7]at hA hval hWt
 obtain⟨v0,vs0,d0,ds0,p0,q0,hargs,rfl,rfl,h0,r0⟩:=trodAll_cons hA
 obtain⟨v1,vs1,d1,ds1,p1,q1,rfl,rfl,rfl,h1,r1⟩:=trodAll_cons r0
 obtain⟨v2,vs2,d2,ds2,p2,q2,rfl,rfl,rfl,h2,r2⟩:=trodAll_cons r1
 obtain⟨rfl,rfl,rfl⟩:=trodAll_nil r2
 obtain rfl:args = #[v0,v1,v2]:=by cases args;simp_all
 obtain⟨rfl,rfl⟩:=trodVars_none hV
 have lt0:∀x∈p0,x.block<W.heap.size:=by obtain⟨m,hm⟩:=h0;exact DataW.trod_lt m _ _ _ hm
 obtain⟨e0,l0,g0⟩:=arg_tree shape0 h0 (hval 0 26 v0 rfl rfl) (λn hn=>of_decide_eq_true (List.all_eq_true.1 hWt n (DataW.weights_mem_each (j:=0) rfl rfl n hn)))
 rw [agg0]at l0
 have lt1:∀x∈p1,x.block<W.heap.size:=by obtain⟨m,hm⟩:=h1;exact DataW.trod_lt m _ _ _ hm
 obtain⟨e1,l1,g1⟩:=arg_tree shape1 h1 (hval 1 34 v1 rfl rfl) (λn hn=>of_decide_eq_true (List.all_eq_true.1 hWt n (DataW.weights_mem_each (j:=1) rfl rfl n hn)))
 rw [agg1]at l1
 have lt2:∀x∈p2,x.block<W.heap.size:=by obtain⟨m,hm⟩:=h2;exact DataW.trod_lt m _ _ _ hm
 obtain⟨e2,l2,g2⟩:=arg_tree shape2 h2 (hval 2 47 v2 rfl rfl) (λn hn=>of_decide_eq_true (List.all_eq_true.1 hWt n (DataW.weights_mem_each (j:=2) rfl rfl n hn)))
 rw [agg2]at l2
 have gN:Tryz.prog.globalNamed "guerdon/date.monthLengths" = some 0:=by kernel_rfl
 have hLp:laidMet Tryz.prog (("guerdon/date.monthLengths",Go.Lib.tabData .i64 [31,28,31,30,31,30,31,31,30,31,30,31])::[]) W:=by
  rw [←MakeChecks.laidMetH_plain _ _ _ (by kernel_rfl)];exact hL
 clear hA0 hval0
 refine(law_walk (vs:=[v0,v1,v2]) (Go.Proofs.Dev.law_call _ _ _ l0 l1 l2) (by simp only [VsRel];exact⟨_,_,rfl,g0,⟨_,_,rfl,g1,⟨_,_,rfl,g2,rfl⟩⟩⟩) (Go.Tm.gok_tab gN (Go.Lib.tabIs_of_head (t:=251) (e:=3) (n:=12) gN (by kernel_rfl) (by kernel_rfl) (by kernel_rfl) (by kernel_rfl) (by kernel_rfl) hLp))).mono λe W' ⟨he,bel⟩=>?_
 subst he
 exact⟨_,rfl,_,_,_,[],_,[],hW',trodAll_mk1 (shut_bool Tryz.underlying4 _),(trodAll_cons_mk (Below.trod laidOut (by kernel_rfl) (of_decide_eq_true (by kernel_rfl)) h0 bel lt0) (trodAll_cons_mk (Below.trod laidOut (by kernel_rfl) (of_decide_eq_true (by kernel_rfl)) h1 bel lt1) (trodAll_cons_mk (Below.trod laidOut (by kernel_rfl) (of_decide_eq_true (by kernel_rfl)) h2 bel lt2) trodAll_mk0))),rfl,bel.frame _,λh=>by cases h⟩
theorem over:Rows.SettlementSummarySaid:=
 OpenClaim.holds_of_wide 7 Tryz.f7 rfl rfl rfl rfl rfl rfl rfl ⟨rfl,rfl,rfl,rfl,rfl⟩ rfl rfl rfl rfl rfl (by kernel_rfl) Tryz.func7 jf
  (of_decide_eq_true (by kernel_rfl)) (by unfold Func.isWrapper;first|(rw [if_pos (by decide +kernel)];kernel_rfl)|(rw [if_neg (by decide +kernel)];exact⟨rfl,rfl⟩))
  (λos started H enc _=>lifted os started H enc)
theorem proved:Rows.SettlementSummaryCardSaid:=
 Claim7.holds_tied_plain_at .later [] [.data] true (true,"58cd2f0367121f531097aa721f713d23e250f7181b07e3949e0bbdfa7a47c1fa") true
  over (λ_ h=>by cases h) g1 (λ_ h=>by cases h) settlementSummary_row_tie rfl ⟨rfl,rfl⟩ g2 rfl
  (λf fn hf hfn=>by
   obtain rfl:f=7:=Option.some.inj (g5.symm.trans hf)|>.symm
   obtain rfl:fn=Tryz.f7:=(Option.some.inj (Tryz.func7.symm.trans hfn)).symm
   exact⟨g3,λj t ht=>by
    rw [Tryz.params7]at ht
    have hm:t∈[26,34,47]:=by simpa using Array.mem_of_getElem? ht
    have hall:([26,34,47].all λu=>!Tryz.prog.wantsStandIn u)=true:=by kernel_rfl
    exact(show Tryz.prog.wantsStandIn t=false by simpa using List.all_eq_true.1 hall t hm)⟩)
  g4
end SettlementSummaryDone
end Go.Proofs.YtmhfebelfmgckaaGreatDoor
