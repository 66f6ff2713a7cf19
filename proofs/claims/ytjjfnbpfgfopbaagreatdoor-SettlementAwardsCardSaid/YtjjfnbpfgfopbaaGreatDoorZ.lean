/-
  The contract of the function of the statement: for all arguments of its types.
-/
import Derived.Test.YtjjfnbpfgfopbaaGreatDoorPE
import Derived.Test.YtjjfnbpfgfopbaaGreatDoorQ8
set_option linter.all false
set_option maxHeartbeats 1000000
set_option maxRecDepth 10000
set_option linter.unusedSimpArgs false
set_option linter.unusedVariables false
set_option maxHeartbeats 1000000
set_option maxRecDepth 10000
namespace Go.Proofs.Dev
open Go Go.Tm
variable {α:Type}{e:α->D}{p:α->Prop}{S:Nat}{A:Bool}{s:Sh}{l:List Sh}{cs:List D}{d:D}
theorem gb{ds:List D}(h:Mk (.int .i64) ds):∃n:Int,ds=[.v (.int .i64 n)]/\-9223372036854775808<=n/\n<=9223372036854775807:=by
 simp only[Mk]at h;obtain⟨n,rfl,hw⟩:=h;refine⟨n,rfl,?_⟩;simp[Lit.wf]at hw;have h1:IntKind.i64.min = -9223372036854775808:=by decide
 omega
theorem dA{ds:List D}(h:Mk .str ds):∃n:ByteArray,ds=[.v (.string n)]:=by
 simp only[Mk]at h
 grind
theorem AS{ds:List D}(he:∀cs,Mk s cs->∃x,vo A cs=e x/\p x) (h:Mk (.sl S A s) ds):∃l:List α,ds=[.sl S (l.map e)]/\l.length<=140737488355328/\∀x∈l,p x:=by
 simp only[Mk]at h;obtain⟨l,rfl,hn,hl⟩:=h;have:∀l:List D,(∀d∈l,∃cs,Mk s cs/\d=vo A cs)->∃r:List α,l=r.map e/\∀x∈r,p x:=by
  intro l
  induction l with
  |nil=>simp
  |cons d l ih=>
   intro h;obtain⟨r,rfl,hr⟩:=ih λd hd=>h d (by grind);obtain⟨cs,h1,rfl⟩:=h d (by simp);obtain⟨x,h2,h3⟩:=he cs h1;refine⟨x::r,by simp_all,λy hy=>?_⟩
   grind
 obtain⟨r,rfl,hr⟩:=this l hl
 grind
theorem jq{ds:List D}(he:∀cs,Mk s cs->∃x,vo A cs=e x/\p x) (h:Mk (.sl S A s) ds):∃l:List α,ds=[.sl S (l.map e)]/\∀x∈l,p x:=by
 obtain⟨r,h1,-,h2⟩:=AS he h
 grind
theorem look_nil{ds:List D}(h:Iu [] ds):ds=[]:=by simpa only[Iu] using h
theorem ja{ds:List D}(h:Iu (s::l) ds):∃a b,ds=a++b/\Mk s a/\Iu l b:=by simpa only[Iu] using h
theorem Cg{ds:List D}(h:Mk (.cat l) ds):Iu l ds:=by simpa only[Mk] using h
theorem cA{ds:List D}(h:Mk (.cat [.int .i64,.int .i64]) ds):∃n m:Int,ds=[.v (.int .i64 n),.v (.int .i64 m)]/\(-9223372036854775808<=n/\n<=9223372036854775807)/\(-9223372036854775808<=m/\m<=9223372036854775807):=by
 obtain⟨a,b,rfl,h1,h⟩:=ja (Cg h);obtain⟨c,d,rfl,h2,h⟩:=ja h;obtain rfl:=look_nil h;obtain⟨n,rfl,hn⟩:=gb h1;obtain⟨m,rfl,hm⟩:=gb h2
 grind
abbrev shF:Sh:=.cat [.str,.cat [.int .i64,.int .i64]]
abbrev shN:Sh:=.cat [.int .i64,.int .i64]
abbrev shR:Sh:=.cat [.str,.int .i64,.int .i64,.int .i64,.cat [.int .i64,.int .i64],.sl 2 true shN,.sl 2 true shN,.str]
abbrev shS:Sh:=.cat [.str,.int .i64,.sl 3 true shF,.sl 3 true shF,.sl 9 true shR]
abbrev shT:Sh:=.cat [.str,.cat [.int .i64,.int .i64],.cat [.int .i64,.int .i64],.sl 5 true (.cat [.cat [.int .i64,.int .i64],.int .i64,.int .i64,.int .i64])]
abbrev shL:Sh:=.cat [.sl 2 true (.cat [.str,.sl 1 false .str]),.sl 6 true shT,.sl 5 true shS]
theorem dec_N(h:Mk shN cs):∃x:GNode,vo true cs=Wi x/\Kd x:=by
 obtain⟨n,m,rfl,hn,hm⟩:=cA h;exact⟨⟨n,m⟩,rfl,by unfold Kd;omega⟩
theorem dec_F(h:Mk shF cs):∃x:GField,vo true cs=Zd x/\True:=by
 obtain⟨a,b,rfl,h1,h⟩:=ja (Cg h);obtain⟨c,d,rfl,h2,h⟩:=ja h;obtain rfl:=look_nil h;obtain⟨s,rfl⟩:=dA h1;obtain⟨n,m,rfl,hn,hm⟩:=cA h2;exact⟨⟨s,⟨n,m⟩⟩,rfl,trivial⟩
theorem dec_R(h:Mk shR cs):∃x:GRule,vo true cs=Jf x/\(∀n∈x.Guard,Kd n)/\∀n∈x.Value,Kd n:=by
 obtain⟨_,_,rfl,h1,h⟩:=ja (Cg h);obtain⟨_,_,rfl,h2,h⟩:=ja h;obtain⟨_,_,rfl,h3,h⟩:=ja h;obtain⟨_,_,rfl,h4,h⟩:=ja h;obtain⟨_,_,rfl,h5,h⟩:=ja h;obtain⟨_,_,rfl,h6,h⟩:=ja h;obtain⟨_,_,rfl,h7,h⟩:=ja h;obtain⟨_,_,rfl,h8,h⟩:=ja h;obtain rfl:=look_nil h;obtain⟨s,rfl⟩:=dA h1;obtain⟨x2,rfl,-⟩:=gb h2;obtain⟨x3,rfl,-⟩:=gb h3;obtain⟨x4,rfl,-⟩:=gb h4;obtain⟨n,m,rfl,-,-⟩:=cA h5;obtain⟨g,rfl,hg⟩:=jq (λ_=>dec_N) h6;obtain⟨v,rfl,hv⟩:=jq (λ_=>dec_N) h7;obtain⟨t,rfl⟩:=dA h8;exact⟨⟨s,x2,x3,x4,⟨n,m⟩,g,v,t⟩,rfl,hg,hv⟩
theorem dec_S(h:Mk shS cs):∃x:GScope,vo true cs=ee x/\∀r∈x.Rules,(∀n∈r.Guard,Kd n)/\∀n∈r.Value,Kd n:=by
 obtain⟨_,_,rfl,h1,h⟩:=ja (Cg h);obtain⟨_,_,rfl,h2,h⟩:=ja h;obtain⟨_,_,rfl,h3,h⟩:=ja h;obtain⟨_,_,rfl,h4,h⟩:=ja h;obtain⟨_,_,rfl,h5,h⟩:=ja h;obtain rfl:=look_nil h;obtain⟨s,rfl⟩:=dA h1;obtain⟨x2,rfl,-⟩:=gb h2;obtain⟨a,rfl,-⟩:=jq (λ_=>dec_F) h3;obtain⟨b,rfl,-⟩:=jq (λ_=>dec_F) h4;obtain⟨r,rfl,hr⟩:=jq (λ_=>dec_R) h5;exact⟨⟨s,x2,a,b,r⟩,rfl,hr⟩
theorem dec_T(h:Mk shT cs):∃x:GTable,vo true cs=Zg x/\x.Rows.length<=1125899906842624:=by
 obtain⟨_,_,rfl,h1,h⟩:=ja (Cg h);obtain⟨_,_,rfl,h2,h⟩:=ja h;obtain⟨_,_,rfl,h3,h⟩:=ja h;obtain⟨_,_,rfl,h4,h⟩:=ja h;obtain rfl:=look_nil h;obtain⟨s,rfl⟩:=dA h1;obtain⟨a,b,rfl,-,-⟩:=cA h2;obtain⟨c,d,rfl,-,-⟩:=cA h3;obtain⟨r,rfl,hr,-⟩:=AS (e:=Wp) (p:=λ_=>True) (λcs h=>by
  obtain⟨_,_,rfl,h1,h⟩:=ja (Cg h);obtain⟨_,_,rfl,h2,h⟩:=ja h;obtain⟨_,_,rfl,h3,h⟩:=ja h;obtain⟨_,_,rfl,h4,h⟩:=ja h;obtain rfl:=look_nil h;obtain⟨a,b,rfl,-,-⟩:=cA h1;obtain⟨x2,rfl,-⟩:=gb h2;obtain⟨x3,rfl,-⟩:=gb h3;obtain⟨x4,rfl,-⟩:=gb h4;exact⟨⟨⟨a,b⟩,x2,x3,x4⟩,rfl,trivial⟩) h4
 exact⟨⟨s,⟨a,b⟩,⟨c,d⟩,r⟩,rfl,by grind⟩
theorem dec_LZ(h:LookV true shL d):∃x:GLaw,d=Tk x/\vI x/\∀t∈x.Tables,t.Rows.length<=1125899906842624:=by
 obtain⟨ds,h,rfl⟩:=h;obtain⟨_,_,rfl,h1,h⟩:=ja (Cg h);obtain⟨_,_,rfl,h2,h⟩:=ja h;obtain⟨_,_,rfl,h3,h⟩:=ja h;obtain rfl:=look_nil h;obtain⟨en,rfl,-⟩:=jq (e:=Rn) (p:=λ_=>True) (λcs h=>by
  obtain⟨_,_,rfl,h1,h⟩:=ja (Cg h);obtain⟨_,_,rfl,h2,h⟩:=ja h;obtain rfl:=look_nil h;obtain⟨s,rfl⟩:=dA h1;obtain⟨m,rfl,-⟩:=jq (e:=Tw) (p:=λ_=>True) (λcs h=>by obtain⟨s,rfl⟩:=dA h;exact⟨s,rfl,trivial⟩) h2;exact⟨⟨s,m⟩,rfl,trivial⟩) h1
 obtain⟨tb,rfl,ht⟩:=jq (λ_=>dec_T) h2;obtain⟨sc,rfl,hs⟩:=jq (λ_=>dec_S) h3;exact⟨⟨en,tb,sc⟩,rfl,hs,ht⟩
theorem dec_I(h:LookV false (.int .i64) d):∃n:Int,d=ca n:=by
 obtain⟨ds,h,rfl⟩:=h;obtain⟨n,rfl,-⟩:=gb h;exact⟨n,rfl⟩
end Go.Proofs.Dev
set_option linter.unusedSimpArgs false
set_option linter.unusedVariables false
set_option maxHeartbeats 1000000
set_option maxRecDepth 10000
namespace Go.Proofs.Dev
open Go Go.Tm
variable {cs:List D}
abbrev shX:Sh:=.cat [.int .i64,.int .i64,.int .i64,.cat [.int .i64,.int .i64,.int .i64],.cat [.int .i64,.int .i64],.int .i64]
abbrev shH:Sh:=.cat [.int .i64,.int .i64,.int .i64,.sl 9 true shX]
theorem dec_X(h:Mk shX cs):∃x:GFact,vo true cs=Hc x/\True:=by
 obtain⟨_,_,rfl,h1,h⟩:=ja (Cg h);obtain⟨_,_,rfl,h2,h⟩:=ja h;obtain⟨_,_,rfl,h3,h⟩:=ja h;obtain⟨_,_,rfl,h4,h⟩:=ja h;obtain⟨_,_,rfl,h5,h⟩:=ja h;obtain⟨_,_,rfl,h6,h⟩:=ja h;obtain rfl:=look_nil h;obtain⟨x1,rfl,-⟩:=gb h1;obtain⟨x2,rfl,-⟩:=gb h2;obtain⟨x3,rfl,-⟩:=gb h3;obtain⟨_,_,rfl,g1,h⟩:=ja (Cg h4);obtain⟨_,_,rfl,g2,h⟩:=ja h;obtain⟨_,_,rfl,g3,h⟩:=ja h;obtain rfl:=look_nil h;obtain⟨y1,rfl,-⟩:=gb g1;obtain⟨y2,rfl,-⟩:=gb g2;obtain⟨y3,rfl,-⟩:=gb g3;obtain⟨a,b,rfl,-,-⟩:=cA h5;obtain⟨x6,rfl,-⟩:=gb h6;exact⟨⟨x1,x2,x3,⟨y1,y2,y3⟩,⟨a,b⟩,x6⟩,rfl,trivial⟩
theorem OY(h:Mk shH cs):∃x:GHousehold,vo true cs=Tn x/\True:=by
 obtain⟨_,_,rfl,h1,h⟩:=ja (Cg h);obtain⟨_,_,rfl,h2,h⟩:=ja h;obtain⟨_,_,rfl,h3,h⟩:=ja h;obtain⟨_,_,rfl,h4,h⟩:=ja h;obtain rfl:=look_nil h;obtain⟨x1,rfl,-⟩:=gb h1;obtain⟨x2,rfl,-⟩:=gb h2;obtain⟨x3,rfl,-⟩:=gb h3;obtain⟨l,rfl,-⟩:=jq (λ_=>dec_X) h4;exact⟨⟨x1,x2,x3,l⟩,rfl,trivial⟩
theorem dec_H{d:D}(h:LookV true shH d):∃x:GHousehold,d=Tn x:=by
 obtain⟨ds,h,rfl⟩:=h;obtain⟨x,h,-⟩:=OY h;exact⟨x,h⟩
end Go.Proofs.Dev
set_option linter.unusedSimpArgs false
set_option linter.unusedVariables false
set_option maxHeartbeats 1000000
set_option maxRecDepth 10000
namespace Go.Proofs.Dev
open Go Go.Tm
abbrev shC:Sh:=.cat [.int .i64,.int .i64,.int .i64,.int .i64,.int .i64,.int .i64,.int .i64,.cat [.int .i64,.sl 1 false (.int .i64)]]
theorem dec_C{d:D}(h:LookV true shC d):∃x:GPayConfig,d=jc x:=by
 obtain⟨ds,h,rfl⟩:=h;obtain⟨_,_,rfl,h1,h⟩:=ja (Cg h);obtain⟨_,_,rfl,h2,h⟩:=ja h;obtain⟨_,_,rfl,h3,h⟩:=ja h;obtain⟨_,_,rfl,h4,h⟩:=ja h;obtain⟨_,_,rfl,h5,h⟩:=ja h;obtain⟨_,_,rfl,h6,h⟩:=ja h;obtain⟨_,_,rfl,h7,h⟩:=ja h;obtain⟨_,_,rfl,h8,h⟩:=ja h;obtain rfl:=look_nil h;obtain⟨x1,rfl,-⟩:=gb h1;obtain⟨x2,rfl,-⟩:=gb h2;obtain⟨x3,rfl,-⟩:=gb h3;obtain⟨x4,rfl,-⟩:=gb h4;obtain⟨x5,rfl,-⟩:=gb h5;obtain⟨x6,rfl,-⟩:=gb h6;obtain⟨x7,rfl,-⟩:=gb h7;obtain⟨_,_,rfl,h9,h⟩:=ja (Cg h8);obtain⟨_,_,rfl,h10,h⟩:=ja h;obtain rfl:=look_nil h;obtain⟨x9,rfl,-⟩:=gb h9;obtain⟨l,rfl,-⟩:=jq (e:=ca) (p:=λ_=>True) (λcs h=>by obtain⟨n,rfl,-⟩:=gb h;exact⟨n,rfl,trivial⟩) h10;exact⟨⟨x1,x2,x3,x4,x5,x6,x7,⟨x9,l⟩⟩,rfl⟩
end Go.Proofs.Dev
set_option linter.unusedSimpArgs false
set_option linter.unusedVariables false
set_option maxHeartbeats 1000000
set_option maxRecDepth 10000
namespace Go.Proofs.Dev
open Go Go.Tm
variable {cs:List D}
abbrev shO:Sh:=.cat [.int .i64,.int .i64,.int .i64,.int .i64]
abbrev shP:Sh:=.cat [.int .i64,.int .i64,.int .i64,.int .i64,.int .i64,.int .i64,.int .i64]
abbrev shA:Sh:=.cat [shH,.sl 4 true shO,.sl 7 true shP,.int .i64,.int .i64]
theorem dec_O(h:Mk shO cs):∃x:GPosting,vo true cs=Ha x/\True:=by
 obtain⟨_,_,rfl,h1,h⟩:=ja (Cg h);obtain⟨_,_,rfl,h2,h⟩:=ja h;obtain⟨_,_,rfl,h3,h⟩:=ja h;obtain⟨_,_,rfl,h4,h⟩:=ja h;obtain rfl:=look_nil h;obtain⟨x1,rfl,-⟩:=gb h1;obtain⟨x2,rfl,-⟩:=gb h2;obtain⟨x3,rfl,-⟩:=gb h3;obtain⟨x4,rfl,-⟩:=gb h4;exact⟨⟨x1,x2,x3,x4⟩,rfl,trivial⟩
theorem dec_P(h:Mk shP cs):∃x:GAppeal,vo true cs=Wd x/\True:=by
 obtain⟨_,_,rfl,h1,h⟩:=ja (Cg h);obtain⟨_,_,rfl,h2,h⟩:=ja h;obtain⟨_,_,rfl,h3,h⟩:=ja h;obtain⟨_,_,rfl,h4,h⟩:=ja h;obtain⟨_,_,rfl,h5,h⟩:=ja h;obtain⟨_,_,rfl,h6,h⟩:=ja h;obtain⟨_,_,rfl,h7,h⟩:=ja h;obtain rfl:=look_nil h;obtain⟨x1,rfl,-⟩:=gb h1;obtain⟨x2,rfl,-⟩:=gb h2;obtain⟨x3,rfl,-⟩:=gb h3;obtain⟨x4,rfl,-⟩:=gb h4;obtain⟨x5,rfl,-⟩:=gb h5;obtain⟨x6,rfl,-⟩:=gb h6;obtain⟨x7,rfl,-⟩:=gb h7;exact⟨⟨x1,x2,x3,x4,x5,x6,x7⟩,rfl,trivial⟩
theorem dec_A{d:D}(h:LookV true shA d):∃x:GAccount,d=we x:=by
 obtain⟨ds,h,rfl⟩:=h;obtain⟨_,_,rfl,h0,h⟩:=ja (Cg h);obtain⟨_,_,rfl,h1,h⟩:=ja h;obtain⟨_,_,rfl,h2,h⟩:=ja h;obtain⟨_,_,rfl,h3,h⟩:=ja h;obtain⟨_,_,rfl,h4,h⟩:=ja h;obtain rfl:=look_nil h;obtain⟨x,hx,-⟩:=OY h0;obtain⟨l,rfl,-⟩:=jq (λ_=>dec_O) h1;obtain⟨q,rfl,-⟩:=jq (λ_=>dec_P) h2;obtain⟨x3,rfl,-⟩:=gb h3;obtain⟨x4,rfl,-⟩:=gb h4;injection hx with hx;subst hx;exact⟨⟨x,l,q,x3,x4⟩,rfl⟩
end Go.Proofs.Dev
set_option linter.unusedSimpArgs false
set_option linter.unusedVariables false
set_option maxHeartbeats 1000000
set_option maxRecDepth 10000
namespace Go.Proofs.Dev
open Go Go.Tm
abbrev shV:Sh:=.cat [.int .i64,.int .i64,.int .i64,.int .i64,.int .i64,.int .i64,.int .i64,.int .i64,shX]
theorem dec_V{d:D}(h:LookV true shV d):∃x:GEvent,d=Vm x:=by
 obtain⟨ds,h,rfl⟩:=h;obtain⟨_,_,rfl,h1,h⟩:=ja (Cg h);obtain⟨_,_,rfl,h2,h⟩:=ja h;obtain⟨_,_,rfl,h3,h⟩:=ja h;obtain⟨_,_,rfl,h4,h⟩:=ja h;obtain⟨_,_,rfl,h5,h⟩:=ja h;obtain⟨_,_,rfl,h6,h⟩:=ja h;obtain⟨_,_,rfl,h7,h⟩:=ja h;obtain⟨_,_,rfl,h8,h⟩:=ja h;obtain⟨_,_,rfl,h9,h⟩:=ja h;obtain rfl:=look_nil h;obtain⟨x1,rfl,-⟩:=gb h1;obtain⟨x2,rfl,-⟩:=gb h2;obtain⟨x3,rfl,-⟩:=gb h3;obtain⟨x4,rfl,-⟩:=gb h4;obtain⟨x5,rfl,-⟩:=gb h5;obtain⟨x6,rfl,-⟩:=gb h6;obtain⟨x7,rfl,-⟩:=gb h7;obtain⟨x8,rfl,-⟩:=gb h8;obtain⟨f,hf,-⟩:=dec_X h9;injection hf with hf;subst hf;exact⟨⟨x1,x2,x3,x4,x5,x6,x7,x8,f⟩,rfl⟩
end Go.Proofs.Dev
set_option linter.unusedSimpArgs false
set_option linter.unusedVariables false
set_option maxHeartbeats 1000000
set_option maxRecDepth 10000
namespace Go.Proofs.Dev
open Go Go.Tm
abbrev shW:Sh:=.sl 17 true shV
theorem dec_V1{cs:List D}(h:Mk shV cs):∃x:GEvent,vo true cs=Vm x/\True:=by
 obtain⟨x,hx⟩:=dec_V (d:=vo true cs) ⟨cs,h,rfl⟩;exact⟨x,hx,trivial⟩
theorem dec_W{d:D}(h:LookV false shW d):∃x:List GEvent,d=Yt x:=by
 obtain⟨ds,h,rfl⟩:=h;obtain⟨l,rfl,-⟩:=jq (λ_=>dec_V1) h;exact⟨l,rfl⟩
end Go.Proofs.Dev
set_option linter.unusedVariables false
namespace Go.Proofs.Dev
open Go Go.Tm
theorem law_call(a b c d:D) (h1:LookV true shL a) (h2:LookV true shC b) (h3:LookV true shA c) (h4:LookV false (.int .i64) d):CallT Tryz.prog 6 [a,b,c,d] [] λx _=>x=.v (.bool true):=by
 obtain⟨l,rfl,hl,hz⟩:=dec_LZ h1;obtain⟨x,rfl⟩:=dec_C h2;obtain⟨y,rfl⟩:=dec_A h3;obtain⟨n,rfl⟩:=dec_I h4;exact(HH (GJ G6 hz hl x y n) []).mono λ_ _ h=>h.1
end Go.Proofs.Dev
