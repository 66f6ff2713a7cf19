/-
  The contract of the function of the statement: for all arguments of its types.
-/
import Derived.Test.YtfanhhhgcabpnaaGreatDoorPD
import Derived.Test.YtfanhhhgcabpnaaGreatDoorQ12
set_option linter.all false
set_option maxHeartbeats 1000000
set_option maxRecDepth 10000
set_option linter.unusedSimpArgs false
set_option linter.unusedVariables false
set_option maxHeartbeats 1000000
set_option maxRecDepth 10000
namespace Go.Proofs.Dev
open Go Go.Tm
theorem ba{ds:List D}(h:Look (.int .i64) ds):∃n:Int,ds=[.v (.int .i64 n)]∧-9223372036854775808≤n∧n≤9223372036854775807:=by
 simp only[Look]at h;obtain⟨n,rfl,hw⟩:=h;refine⟨n,rfl,?_⟩;simp[Lit.wf]at hw;have h1:IntKind.i64.min = -9223372036854775808:=by decide
 have h2:IntKind.i64.max=9223372036854775807:=by decide
 omega
theorem Xa{ds:List D}(h:Look .str ds):∃n:ByteArray,ds=[.v (.string n)]:=by
 simp only[Look]at h;obtain⟨n,rfl,hw⟩:=h;exact⟨n,rfl⟩
theorem vc{α:Type}{e:α→D}{p:α→Prop}{S:Nat}{A:Bool}{s:Sh}{ds:List D}(he:∀cs,Look s cs→∃x,wrapD A cs=e x∧p x) (h:Look (.sl S A s) ds):∃l:List α,ds=[.sl S (l.map e)]∧l.length≤140737488355328∧∀x∈l,p x:=by
 simp only[Look]at h;obtain⟨l,rfl,hn,hl⟩:=h;have:∀l:List D,(∀d∈l,∃cs,Look s cs∧d=wrapD A cs)→∃r:List α,l=r.map e∧∀x∈r,p x:=by
  intro l
  induction l with
  |nil=>exact fun _=>⟨[],rfl,fun x hx=>by cases hx⟩
  |cons d l ih=>
   intro h;obtain⟨r,rfl,hr⟩:=ih fun d hd=>h d (by simp[hd]);obtain⟨cs,h1,rfl⟩:=h d (by simp);obtain⟨x,h2,h3⟩:=he cs h1;refine⟨x::r,by rw[h2];rfl,fun y hy=>?_⟩;rcases List.mem_cons.1 hy with rfl|hy
   ·exact h3
   ·exact hr y hy
 obtain⟨r,rfl,hr⟩:=this l hl;exact⟨r,rfl,by simpa using hn,hr⟩
theorem za{α:Type}{e:α→D}{p:α→Prop}{S:Nat}{A:Bool}{s:Sh}{ds:List D}(he:∀cs,Look s cs→∃x,wrapD A cs=e x∧p x) (h:Look (.sl S A s) ds):∃l:List α,ds=[.sl S (l.map e)]∧∀x∈l,p x:=by
 obtain⟨r,h1,-,h2⟩:=vc he h;exact⟨r,h1,h2⟩
theorem look_nil{ds:List D}(h:LookL [] ds):ds=[]:=by simpa only[LookL] using h
theorem aa{s:Sh}{l:List Sh}{ds:List D}(h:LookL (s::l) ds):∃a b,ds=a++b∧Look s a∧LookL l b:=by simpa only[LookL] using h
theorem da{l:List Sh}{ds:List D}(h:Look (.cat l) ds):LookL l ds:=by simpa only[Look] using h
theorem Wa{ds:List D}(h:Look (.cat [.int .i64,.int .i64]) ds):∃n m:Int,ds=[.v (.int .i64 n),.v (.int .i64 m)]∧(-9223372036854775808≤n∧n≤9223372036854775807)∧(-9223372036854775808≤m∧m≤9223372036854775807):=by
 obtain⟨a,b,rfl,h1,h⟩:=aa (da h);obtain⟨c,d,rfl,h2,h⟩:=aa h;obtain rfl:=look_nil h;obtain⟨n,rfl,hn⟩:=ba h1;obtain⟨m,rfl,hm⟩:=ba h2;exact⟨n,m,rfl,hn,hm⟩
abbrev Nl:Sh:=.cat [.str,.cat [.int .i64,.int .i64]]
abbrev Ol:Sh:=.cat [.int .i64,.int .i64]
abbrev bn:Sh:=.cat [.str,.int .i64,.int .i64,.int .i64,.cat [.int .i64,.int .i64],.sl 2 true Ol,.sl 2 true Ol,.str]
abbrev cn:Sh:=.cat [.str,.int .i64,.sl 3 true Nl,.sl 3 true Nl,.sl 9 true bn]
abbrev dn:Sh:=.cat [.str,.cat [.int .i64,.int .i64],.cat [.int .i64,.int .i64],.sl 5 true (.cat [.cat [.int .i64,.int .i64],.int .i64,.int .i64,.int .i64])]
abbrev shL:Sh:=.cat [.sl 2 true (.cat [.str,.sl 1 false .str]),.sl 6 true dn,.sl 5 true cn]
theorem ef{cs:List D}(h:Look Ol cs):∃x:GNode,wrapD true cs=e_GNode x∧NodeOk x:=by
 obtain⟨n,m,rfl,hn,hm⟩:=Wa h;exact⟨⟨n,m⟩,rfl,by unfold NodeOk;dsimp only;omega⟩
theorem df{cs:List D}(h:Look Nl cs):∃x:GField,wrapD true cs=e_GField x∧True:=by
 obtain⟨a,b,rfl,h1,h⟩:=aa (da h);obtain⟨c,d,rfl,h2,h⟩:=aa h;obtain rfl:=look_nil h;obtain⟨s,rfl⟩:=Xa h1;obtain⟨n,m,rfl,hn,hm⟩:=Wa h2;exact⟨⟨s,⟨n,m⟩⟩,rfl,trivial⟩
theorem Pf{cs:List D}(h:Look bn cs):∃x:GRule,wrapD true cs=e_GRule x∧(∀n∈x.Guard,NodeOk n)∧∀n∈x.Value,NodeOk n:=by
 obtain⟨_,_,rfl,h1,h⟩:=aa (da h);obtain⟨_,_,rfl,h2,h⟩:=aa h;obtain⟨_,_,rfl,h3,h⟩:=aa h;obtain⟨_,_,rfl,h4,h⟩:=aa h;obtain⟨_,_,rfl,h5,h⟩:=aa h;obtain⟨_,_,rfl,h6,h⟩:=aa h;obtain⟨_,_,rfl,h7,h⟩:=aa h;obtain⟨_,_,rfl,h8,h⟩:=aa h;obtain rfl:=look_nil h;obtain⟨s,rfl⟩:=Xa h1;obtain⟨x2,rfl,-⟩:=ba h2;obtain⟨x3,rfl,-⟩:=ba h3;obtain⟨x4,rfl,-⟩:=ba h4;obtain⟨n,m,rfl,-,-⟩:=Wa h5;obtain⟨g,rfl,hg⟩:=za (fun _=>ef) h6;obtain⟨v,rfl,hv⟩:=za (fun _=>ef) h7;obtain⟨t,rfl⟩:=Xa h8;exact⟨⟨s,x2,x3,x4,⟨n,m⟩,g,v,t⟩,rfl,hg,hv⟩
theorem Qf{cs:List D}(h:Look cn cs):∃x:GScope,wrapD true cs=e_GScope x∧∀r∈x.Rules,(∀n∈r.Guard,NodeOk n)∧∀n∈r.Value,NodeOk n:=by
 obtain⟨_,_,rfl,h1,h⟩:=aa (da h);obtain⟨_,_,rfl,h2,h⟩:=aa h;obtain⟨_,_,rfl,h3,h⟩:=aa h;obtain⟨_,_,rfl,h4,h⟩:=aa h;obtain⟨_,_,rfl,h5,h⟩:=aa h;obtain rfl:=look_nil h;obtain⟨s,rfl⟩:=Xa h1;obtain⟨x2,rfl,-⟩:=ba h2;obtain⟨a,rfl,-⟩:=za (fun _=>df) h3;obtain⟨b,rfl,-⟩:=za (fun _=>df) h4;obtain⟨r,rfl,hr⟩:=za (fun _=>Pf) h5;exact⟨⟨s,x2,a,b,r⟩,rfl,hr⟩
theorem Rf{cs:List D}(h:Look dn cs):∃x:GTable,wrapD true cs=e_GTable x∧x.Rows.length≤1125899906842624:=by
 obtain⟨_,_,rfl,h1,h⟩:=aa (da h);obtain⟨_,_,rfl,h2,h⟩:=aa h;obtain⟨_,_,rfl,h3,h⟩:=aa h;obtain⟨_,_,rfl,h4,h⟩:=aa h;obtain rfl:=look_nil h;obtain⟨s,rfl⟩:=Xa h1;obtain⟨a,b,rfl,-,-⟩:=Wa h2;obtain⟨c,d,rfl,-,-⟩:=Wa h3;obtain⟨r,rfl,hr,-⟩:=vc (e:=e_GRow) (p:=fun _=>True) (fun cs h=>by
  obtain⟨_,_,rfl,h1,h⟩:=aa (da h);obtain⟨_,_,rfl,h2,h⟩:=aa h;obtain⟨_,_,rfl,h3,h⟩:=aa h;obtain⟨_,_,rfl,h4,h⟩:=aa h;obtain rfl:=look_nil h;obtain⟨a,b,rfl,-,-⟩:=Wa h1;obtain⟨x2,rfl,-⟩:=ba h2;obtain⟨x3,rfl,-⟩:=ba h3;obtain⟨x4,rfl,-⟩:=ba h4;exact⟨⟨⟨a,b⟩,x2,x3,x4⟩,rfl,trivial⟩) h4
 exact⟨⟨s,⟨a,b⟩,⟨c,d⟩,r⟩,rfl,by dsimp only;omega⟩
theorem xf{d:D}(h:LookV true shL d):∃x:GLaw,d=e_GLaw x∧LawTy x∧∀t∈x.Tables,t.Rows.length≤1125899906842624:=by
 obtain⟨ds,h,rfl⟩:=h;obtain⟨_,_,rfl,h1,h⟩:=aa (da h);obtain⟨_,_,rfl,h2,h⟩:=aa h;obtain⟨_,_,rfl,h3,h⟩:=aa h;obtain rfl:=look_nil h;obtain⟨en,rfl,-⟩:=za (e:=e_GEnum) (p:=fun _=>True) (fun cs h=>by
  obtain⟨_,_,rfl,h1,h⟩:=aa (da h);obtain⟨_,_,rfl,h2,h⟩:=aa h;obtain rfl:=look_nil h;obtain⟨s,rfl⟩:=Xa h1;obtain⟨m,rfl,-⟩:=za (e:=e_str) (p:=fun _=>True) (fun cs h=>by obtain⟨s,rfl⟩:=Xa h;exact⟨s,rfl,trivial⟩) h2;exact⟨⟨s,m⟩,rfl,trivial⟩) h1
 obtain⟨tb,rfl,ht⟩:=za (fun _=>Rf) h2;obtain⟨sc,rfl,hs⟩:=za (fun _=>Qf) h3;exact⟨⟨en,tb,sc⟩,rfl,hs,ht⟩
end Go.Proofs.Dev
set_option linter.unusedSimpArgs false
set_option linter.unusedVariables false
set_option maxHeartbeats 1000000
set_option maxRecDepth 10000
namespace Go.Proofs.Dev
open Go Go.Tm
abbrev shC:Sh:=.cat [.int .i64,.int .i64,.int .i64,.int .i64,.int .i64,.int .i64,.int .i64,.cat [.int .i64,.sl 1 false (.int .i64)]]
theorem Mf{d:D}(h:LookV true shC d):∃x:GPayConfig,d=e_GPayConfig x:=by
 obtain⟨ds,h,rfl⟩:=h;obtain⟨_,_,rfl,h1,h⟩:=aa (da h);obtain⟨_,_,rfl,h2,h⟩:=aa h;obtain⟨_,_,rfl,h3,h⟩:=aa h;obtain⟨_,_,rfl,h4,h⟩:=aa h;obtain⟨_,_,rfl,h5,h⟩:=aa h;obtain⟨_,_,rfl,h6,h⟩:=aa h;obtain⟨_,_,rfl,h7,h⟩:=aa h;obtain⟨_,_,rfl,h8,h⟩:=aa h;obtain rfl:=look_nil h;obtain⟨x1,rfl,-⟩:=ba h1;obtain⟨x2,rfl,-⟩:=ba h2;obtain⟨x3,rfl,-⟩:=ba h3;obtain⟨x4,rfl,-⟩:=ba h4;obtain⟨x5,rfl,-⟩:=ba h5;obtain⟨x6,rfl,-⟩:=ba h6;obtain⟨x7,rfl,-⟩:=ba h7;obtain⟨_,_,rfl,h9,h⟩:=aa (da h8);obtain⟨_,_,rfl,h10,h⟩:=aa h;obtain rfl:=look_nil h;obtain⟨x9,rfl,-⟩:=ba h9;obtain⟨l,rfl,-⟩:=za (e:=e_i64) (p:=fun _=>True) (fun cs h=>by obtain⟨n,rfl,-⟩:=ba h;exact⟨n,rfl,trivial⟩) h10;exact⟨⟨x1,x2,x3,x4,x5,x6,x7,⟨x9,l⟩⟩,rfl⟩
end Go.Proofs.Dev
set_option linter.unusedSimpArgs false
set_option linter.unusedVariables false
set_option maxHeartbeats 1000000
set_option maxRecDepth 10000
namespace Go.Proofs.Dev
open Go Go.Tm
abbrev gn:Sh:=.cat [.int .i64,.int .i64,.int .i64,.cat [.int .i64,.int .i64,.int .i64],.cat [.int .i64,.int .i64],.int .i64]
abbrev Xm:Sh:=.cat [.int .i64,.int .i64,.int .i64,.sl 9 true gn]
theorem Sf{cs:List D}(h:Look gn cs):∃x:GFact,wrapD true cs=e_GFact x∧True:=by
 obtain⟨_,_,rfl,h1,h⟩:=aa (da h);obtain⟨_,_,rfl,h2,h⟩:=aa h;obtain⟨_,_,rfl,h3,h⟩:=aa h;obtain⟨_,_,rfl,h4,h⟩:=aa h;obtain⟨_,_,rfl,h5,h⟩:=aa h;obtain⟨_,_,rfl,h6,h⟩:=aa h;obtain rfl:=look_nil h;obtain⟨x1,rfl,-⟩:=ba h1;obtain⟨x2,rfl,-⟩:=ba h2;obtain⟨x3,rfl,-⟩:=ba h3;obtain⟨_,_,rfl,g1,h⟩:=aa (da h4);obtain⟨_,_,rfl,g2,h⟩:=aa h;obtain⟨_,_,rfl,g3,h⟩:=aa h;obtain rfl:=look_nil h;obtain⟨y1,rfl,-⟩:=ba g1;obtain⟨y2,rfl,-⟩:=ba g2;obtain⟨y3,rfl,-⟩:=ba g3;obtain⟨a,b,rfl,-,-⟩:=Wa h5;obtain⟨x6,rfl,-⟩:=ba h6;exact⟨⟨x1,x2,x3,⟨y1,y2,y3⟩,⟨a,b⟩,x6⟩,rfl,trivial⟩
theorem vf{cs:List D}(h:Look Xm cs):∃x:GHousehold,wrapD true cs=e_GHousehold x∧True:=by
 obtain⟨_,_,rfl,h1,h⟩:=aa (da h);obtain⟨_,_,rfl,h2,h⟩:=aa h;obtain⟨_,_,rfl,h3,h⟩:=aa h;obtain⟨_,_,rfl,h4,h⟩:=aa h;obtain rfl:=look_nil h;obtain⟨x1,rfl,-⟩:=ba h1;obtain⟨x2,rfl,-⟩:=ba h2;obtain⟨x3,rfl,-⟩:=ba h3;obtain⟨l,rfl,-⟩:=za (fun _=>Sf) h4;exact⟨⟨x1,x2,x3,l⟩,rfl,trivial⟩
end Go.Proofs.Dev
set_option linter.unusedSimpArgs false
set_option linter.unusedVariables false
set_option maxHeartbeats 1000000
set_option maxRecDepth 10000
namespace Go.Proofs.Dev
open Go Go.Tm
abbrev Ym:Sh:=.cat [.int .i64,.int .i64,.int .i64,.int .i64]
abbrev Zm:Sh:=.cat [.int .i64,.int .i64,.int .i64,.int .i64,.int .i64,.int .i64,.int .i64]
abbrev shA:Sh:=.cat [Xm,.sl 4 true Ym,.sl 7 true Zm,.int .i64,.int .i64]
theorem Nf{cs:List D}(h:Look Ym cs):∃x:GPosting,wrapD true cs=e_GPosting x∧True:=by
 obtain⟨_,_,rfl,h1,h⟩:=aa (da h);obtain⟨_,_,rfl,h2,h⟩:=aa h;obtain⟨_,_,rfl,h3,h⟩:=aa h;obtain⟨_,_,rfl,h4,h⟩:=aa h;obtain rfl:=look_nil h;obtain⟨x1,rfl,-⟩:=ba h1;obtain⟨x2,rfl,-⟩:=ba h2;obtain⟨x3,rfl,-⟩:=ba h3;obtain⟨x4,rfl,-⟩:=ba h4;exact⟨⟨x1,x2,x3,x4⟩,rfl,trivial⟩
theorem Of{cs:List D}(h:Look Zm cs):∃x:GAppeal,wrapD true cs=e_GAppeal x∧True:=by
 obtain⟨_,_,rfl,h1,h⟩:=aa (da h);obtain⟨_,_,rfl,h2,h⟩:=aa h;obtain⟨_,_,rfl,h3,h⟩:=aa h;obtain⟨_,_,rfl,h4,h⟩:=aa h;obtain⟨_,_,rfl,h5,h⟩:=aa h;obtain⟨_,_,rfl,h6,h⟩:=aa h;obtain⟨_,_,rfl,h7,h⟩:=aa h;obtain rfl:=look_nil h;obtain⟨x1,rfl,-⟩:=ba h1;obtain⟨x2,rfl,-⟩:=ba h2;obtain⟨x3,rfl,-⟩:=ba h3;obtain⟨x4,rfl,-⟩:=ba h4;obtain⟨x5,rfl,-⟩:=ba h5;obtain⟨x6,rfl,-⟩:=ba h6;obtain⟨x7,rfl,-⟩:=ba h7;exact⟨⟨x1,x2,x3,x4,x5,x6,x7⟩,rfl,trivial⟩
theorem Lf{d:D}(h:LookV true shA d):∃x:GAccount,d=e_GAccount x:=by
 obtain⟨ds,h,rfl⟩:=h;obtain⟨_,_,rfl,h0,h⟩:=aa (da h);obtain⟨_,_,rfl,h1,h⟩:=aa h;obtain⟨_,_,rfl,h2,h⟩:=aa h;obtain⟨_,_,rfl,h3,h⟩:=aa h;obtain⟨_,_,rfl,h4,h⟩:=aa h;obtain rfl:=look_nil h;obtain⟨x,hx,-⟩:=vf h0;obtain⟨l,rfl,-⟩:=za (fun _=>Nf) h1;obtain⟨q,rfl,-⟩:=za (fun _=>Of) h2;obtain⟨x3,rfl,-⟩:=ba h3;obtain⟨x4,rfl,-⟩:=ba h4;injection hx with hx;subst hx;exact⟨⟨x,l,q,x3,x4⟩,rfl⟩
end Go.Proofs.Dev
set_option linter.unusedVariables false
namespace Go.Proofs.Dev
open Go Go.Tm
theorem law_call(a b c:D) (h1:LookV true shL a) (h2:LookV true shC b) (h3:LookV true shA c):CallT Tryz.prog 6 [a,b,c] [] fun x _=>x=.v (.bool true):=by
 obtain⟨l,rfl,hl,hz⟩:=xf h1;obtain⟨x,rfl⟩:=Mf h2;obtain⟨y,rfl⟩:=Lf h3;exact(ta (Qa rfl hz hl x y) []).mono fun _ _ h=>h.1
end Go.Proofs.Dev
