import Derived.Test.YtfanhhhgcabpnaaGreatDoorCards
import Derived.Test.YtfanhhhgcabpnaaGreatDoorTie
import Derived.Test.YtfanhhhgcabpnaaGreatDoorZ
import Derived.Test.YtfanhhhgcabpnaaGreatDoorJ4
import Derived.Test.YtfanhhhgcabpnaaGreatDoorJ5
import Derived.Test.YtfanhhhgcabpnaaGreatDoorJ6
import Derived.WalkKit
import Derived.ProofKit
import Derived.OpenShut
import Derived.ChangeOld
import Derived.LaidMore
import Derived.Stop.Joined
import Derived.SevenTiedAt
import Derived.MakeChecks
set_option linter.all false
namespace Go.Proofs.YtfanhhhgcabpnaaGreatDoor
namespace AccountNewDone
open Go.ChangeShapes Go.WideShapes Go.ChangeAt Go.RowKit
open Go.Tm (CallT Gh VRel VsRel Inv Step shOf aggT LookV R0 GOK gtab arg_tree law_walk)
theorem own:ownKnob Tryz.prog.godebug=none:=by kernel_rfl
theorem laidOut:laidOutB Tryz.prog=true:=by kernel_rfl
def laidL {H:Type}:List (String×DataW H):=[("guerdon/date.monthLengths",Rows.laid_guerdon_date_monthLengths)]
theorem door_met (os:Os) (args:Array Value):laidMetH Tryz.prog laidL ((World.doorLaid Tryz.prog 400 os).forCall (fun _ _=>0) ⟨#[],args,[]⟩).memory:=
 laidMetH_of_parts3 (fuel:=8) (laidMet_of_run' 8 (by kernel_rfl) (by kernel_rfl)) (by kernel_rfl) (by kernel_rfl)
theorem shape0:shOf Tryz.prog 12 40=some Go.Proofs.Dev.shH:=by kernel_rfl
theorem agg0:aggT Tryz.prog 40=true:=by kernel_rfl
set_option maxRecDepth 100000
theorem lifted (os:Os) (started:os.Started) (H:Type) (enc:TypeId×Value→H) :
 ReturnsInHanded {} Tryz.checked os 5 .any (fun w args=>(Rows.accountNewSpec.pre enc Tryz.prog Tryz.f5 [] false w args∧laidMetH Tryz.prog laidL w)∧sizedMet enc Tryz.prog Tryz.f5 (OpenSpec.ofChange Rows.accountNewSpec) false w args)
  (Rows.accountNewSpec.post enc Tryz.prog Tryz.f5 false true false false):=by
 refine returnsInHanded_of_change_and (C:=Tryz.checked) (X:=fun w _=>laidMetH Tryz.prog laidL w) (fun _ _ _ hh h=>h.of_heap hh) own started (by kernel_rfl) Tryz.func5
  (ChangeSpec.witness_shaped (enc:=enc) (C:=Tryz.checked) (os:=os) (X:=fun w _=>laidMetH Tryz.prog laidL w) false (World.doorLaid Tryz.prog 400 os) #[.agg #[.int .i64 0,.int .i64 0,.int .i64 0,.slice none 0 0]] 8 rfl (World.shaped_of_RefB (by kernel_rfl) (by kernel_rfl)) (by kernel_rfl) (by kernel_rfl) (by kernel_rfl) (door_met os _)) ?_
 intro W base args ds gs before hval0 hW _ _ hL _
 have hval:∀(j:Nat) t v,Tryz.f5.params[j]?=some t→args[j]?=some v→Value.okWide Tryz.prog W .any base t v:=hval0
 have hW':=hW
 obtain⟨p,q,hA0,hV,rfl,hfz,hnd⟩:=hW
 have hA:DataW.TrodAll enc Tryz.prog W 0 (fun _=>true) true Tryz.f5.params.toList args.toList ds p:=hA0
 rw [Tryz.params5]at hA hval
 obtain⟨v0,vs0,d0,ds0,p0,q0,hargs,rfl,rfl,h0,r0⟩:=trodAll_cons hA
 obtain⟨rfl,rfl,rfl⟩:=trodAll_nil r0
 obtain rfl:args = #[v0]:=by cases args;simp_all
 obtain⟨rfl,rfl⟩:=trodVars_none hV
 have lt0:∀x∈p0,x.block<W.heap.size:=by obtain⟨m,hm⟩:=h0;exact DataW.trod_lt m _ _ _ hm
 obtain⟨e0,l0,g0⟩:=arg_tree shape0 h0 (hval 0 40 v0 rfl rfl)
 rw [agg0]at l0
 have gN:Tryz.prog.globalNamed "guerdon/date.monthLengths" = some 0:=by kernel_rfl
 have hLp:laidMet Tryz.prog (("guerdon/date.monthLengths",Go.Lib.tabData .i64 [31,28,31,30,31,30,31,31,30,31,30,31])::[]) W:=by
  rw [←MakeChecks.laidMetH_plain _ _ _ (by kernel_rfl)];exact hL
 clear hA0 hval0
 refine(law_walk (vs:=[v0]) (Go.Proofs.Dev.law_call _ l0) (by simp only [VsRel];exact⟨_,_,rfl,g0,rfl⟩) (Go.Tm.gok_tab gN (Go.Lib.tabIs_of_head (t:=240) (e:=3) (n:=12) gN (by kernel_rfl) (by kernel_rfl) (by kernel_rfl) (by kernel_rfl) (by kernel_rfl) hLp))).mono fun e W' ⟨he,bel⟩=>?_
 subst he
 exact⟨_,rfl,_,_,_,[],_,[],hW',trodAll_mk1 (shut_bool Tryz.underlying4 _),(trodAll_cons_mk (Below.trod laidOut (by kernel_rfl) (of_decide_eq_true (by kernel_rfl)) h0 bel lt0) trodAll_mk0),rfl,bel.frame _,fun h=>by cases h⟩
theorem over:Rows.AccountNewSaid:=
 OpenClaim.holds_of_wide 5 Tryz.f5 rfl rfl rfl rfl rfl rfl rfl ⟨rfl,rfl,rfl,rfl,rfl⟩ rfl rfl rfl rfl rfl (by kernel_rfl) Tryz.func5 jf
  (of_decide_eq_true (by kernel_rfl)) (by unfold Func.isWrapper;first|(rw [if_pos (by decide +kernel)];kernel_rfl)|(rw [if_neg (by decide +kernel)];exact⟨rfl,rfl⟩))
  (fun os started H enc _=>lifted os started H enc)
theorem proved:Rows.AccountNewCardSaid:=
 Claim7.holds_tied_plain_at .later [] [.data] true (true,"8a591badecd1c0871b3cd61776fbe5a532627f58497d9584faeb402adc9f2862") true
  over (fun _ h=>by cases h) g1 (fun _ h=>by cases h) accountNew_row_tie rfl ⟨rfl,rfl⟩ g2 rfl
  (fun f fn hf hfn=>by
   obtain rfl:f=5:=Option.some.inj (g5.symm.trans hf)|>.symm
   obtain rfl:fn=Tryz.f5:=(Option.some.inj (Tryz.func5.symm.trans hfn)).symm
   exact⟨g3,fun j t ht=>by
    rw [Tryz.params5]at ht
    have hm:t∈[40]:=by simpa using Array.mem_of_getElem? ht
    have hall:([40].all fun u=>!Tryz.prog.wantsStandIn u)=true:=by kernel_rfl
    exact(show Tryz.prog.wantsStandIn t=false by simpa using List.all_eq_true.1 hall t hm)⟩)
  g4
end AccountNewDone
end Go.Proofs.YtfanhhhgcabpnaaGreatDoor
