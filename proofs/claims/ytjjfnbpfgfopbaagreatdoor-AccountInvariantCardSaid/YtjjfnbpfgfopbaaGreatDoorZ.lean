/-
  The contract of the function of the statement: for all arguments of its types.
-/
import Derived.Test.YtjjfnbpfgfopbaaGreatDoorPE
import Derived.Test.YtjjfnbpfgfopbaaGreatDoorQ9
set_option linter.all false
set_option maxHeartbeats 1000000
set_option maxRecDepth 10000
set_option linter.unusedSimpArgs false
set_option linter.unusedVariables false
set_option maxHeartbeats 1000000
set_option maxRecDepth 10000
namespace Go.Proofs.Dev
open Go Go.Tm
theorem wb{ds:List D}(h:Qk (.int .i64) ds):∃n:Int,ds=[.v (.int .i64 n)]/\-9223372036854775808<=n/\n<=9223372036854775807:=by
 simp only[Qk]at h;obtain⟨n,rfl,hw⟩:=h;refine⟨n,rfl,?_⟩;simp[Lit.wf]at hw;have h1:IntKind.i64.min = -9223372036854775808:=by decide
 omega
theorem Py{ds:List D}(h:Qk .str ds):∃n:ByteArray,ds=[.v (.string n)]:=by
 simp only[Qk]at h
 grind
theorem NO{α:Type}{e:α->D}{p:α->Prop}{S:Nat}{A:Bool}{s:Sh}{ds:List D}(he:∀cs,Qk s cs->∃x,Eo A cs=e x/\p x) (h:Qk (.sl S A s) ds):∃l:List α,ds=[.sl S (l.map e)]/\l.length<=140737488355328/\∀x∈l,p x:=by
 simp only[Qk]at h;obtain⟨l,rfl,hn,hl⟩:=h;have:∀l:List D,(∀d∈l,∃cs,Qk s cs/\d=Eo A cs)->∃r:List α,l=r.map e/\∀x∈r,p x:=by
  intro l
  induction l with
  |nil=>simp
  |cons d l ih=>
   intro h;obtain⟨r,rfl,hr⟩:=ih λd hd=>h d (by grind);obtain⟨cs,h1,rfl⟩:=h d (by simp);obtain⟨x,h2,h3⟩:=he cs h1;refine⟨x::r,by simp_all,λy hy=>?_⟩
   grind
 obtain⟨r,rfl,hr⟩:=this l hl
 grind
theorem Zp{α:Type}{e:α->D}{p:α->Prop}{S:Nat}{A:Bool}{s:Sh}{ds:List D}(he:∀cs,Qk s cs->∃x,Eo A cs=e x/\p x) (h:Qk (.sl S A s) ds):∃l:List α,ds=[.sl S (l.map e)]/\∀x∈l,p x:=by
 obtain⟨r,h1,-,h2⟩:=NO he h
 grind
theorem look_nil{ds:List D}(h:tt [] ds):ds=[]:=by simpa only[tt] using h
theorem oa{s:Sh}{l:List Sh}{ds:List D}(h:tt (s::l) ds):∃a b,ds=a++b/\Qk s a/\tt l b:=by simpa only[tt] using h
theorem eg{l:List Sh}{ds:List D}(h:Qk (.cat l) ds):tt l ds:=by simpa only[Qk] using h
theorem Oy{ds:List D}(h:Qk (.cat [.int .i64,.int .i64]) ds):∃n m:Int,ds=[.v (.int .i64 n),.v (.int .i64 m)]/\(-9223372036854775808<=n/\n<=9223372036854775807)/\(-9223372036854775808<=m/\m<=9223372036854775807):=by
 obtain⟨a,b,rfl,h1,h⟩:=oa (eg h);obtain⟨c,d,rfl,h2,h⟩:=oa h;obtain rfl:=look_nil h;obtain⟨n,rfl,hn⟩:=wb h1;obtain⟨m,rfl,hm⟩:=wb h2
 grind
abbrev shF:Sh:=.cat [.str,.cat [.int .i64,.int .i64]]
abbrev shN:Sh:=.cat [.int .i64,.int .i64]
abbrev shR:Sh:=.cat [.str,.int .i64,.int .i64,.int .i64,.cat [.int .i64,.int .i64],.sl 2 true shN,.sl 2 true shN,.str]
abbrev shS:Sh:=.cat [.str,.int .i64,.sl 3 true shF,.sl 3 true shF,.sl 9 true shR]
abbrev shT:Sh:=.cat [.str,.cat [.int .i64,.int .i64],.cat [.int .i64,.int .i64],.sl 5 true (.cat [.cat [.int .i64,.int .i64],.int .i64,.int .i64,.int .i64])]
abbrev shL:Sh:=.cat [.sl 2 true (.cat [.str,.sl 1 false .str]),.sl 6 true shT,.sl 5 true shS]
theorem N5{cs:List D}(h:Qk shN cs):∃x:GNode,Eo true cs=Sb x/\Bd x:=by
 obtain⟨n,m,rfl,hn,hm⟩:=Oy h;exact⟨⟨n,m⟩,rfl,by unfold Bd;omega⟩
theorem M5{cs:List D}(h:Qk shF cs):∃x:GField,Eo true cs=db x/\True:=by
 obtain⟨a,b,rfl,h1,h⟩:=oa (eg h);obtain⟨c,d,rfl,h2,h⟩:=oa h;obtain rfl:=look_nil h;obtain⟨s,rfl⟩:=Py h1;obtain⟨n,m,rfl,hn,hm⟩:=Oy h2;exact⟨⟨s,⟨n,m⟩⟩,rfl,trivial⟩
theorem dec_R{cs:List D}(h:Qk shR cs):∃x:GRule,Eo true cs=gb x/\(∀n∈x.Guard,Bd n)/\∀n∈x.Value,Bd n:=by
 obtain⟨_,_,rfl,h1,h⟩:=oa (eg h);obtain⟨_,_,rfl,h2,h⟩:=oa h;obtain⟨_,_,rfl,h3,h⟩:=oa h;obtain⟨_,_,rfl,h4,h⟩:=oa h;obtain⟨_,_,rfl,h5,h⟩:=oa h;obtain⟨_,_,rfl,h6,h⟩:=oa h;obtain⟨_,_,rfl,h7,h⟩:=oa h;obtain⟨_,_,rfl,h8,h⟩:=oa h;obtain rfl:=look_nil h;obtain⟨s,rfl⟩:=Py h1;obtain⟨x2,rfl,-⟩:=wb h2;obtain⟨x3,rfl,-⟩:=wb h3;obtain⟨x4,rfl,-⟩:=wb h4;obtain⟨n,m,rfl,-,-⟩:=Oy h5;obtain⟨g,rfl,hg⟩:=Zp (λ_=>N5) h6;obtain⟨v,rfl,hv⟩:=Zp (λ_=>N5) h7;obtain⟨t,rfl⟩:=Py h8;exact⟨⟨s,x2,x3,x4,⟨n,m⟩,g,v,t⟩,rfl,hg,hv⟩
theorem dec_S{cs:List D}(h:Qk shS cs):∃x:GScope,Eo true cs=Ma x/\∀r∈x.Rules,(∀n∈r.Guard,Bd n)/\∀n∈r.Value,Bd n:=by
 obtain⟨_,_,rfl,h1,h⟩:=oa (eg h);obtain⟨_,_,rfl,h2,h⟩:=oa h;obtain⟨_,_,rfl,h3,h⟩:=oa h;obtain⟨_,_,rfl,h4,h⟩:=oa h;obtain⟨_,_,rfl,h5,h⟩:=oa h;obtain rfl:=look_nil h;obtain⟨s,rfl⟩:=Py h1;obtain⟨x2,rfl,-⟩:=wb h2;obtain⟨a,rfl,-⟩:=Zp (λ_=>M5) h3;obtain⟨b,rfl,-⟩:=Zp (λ_=>M5) h4;obtain⟨r,rfl,hr⟩:=Zp (λ_=>dec_R) h5;exact⟨⟨s,x2,a,b,r⟩,rfl,hr⟩
theorem dec_T{cs:List D}(h:Qk shT cs):∃x:GTable,Eo true cs=Qb x/\x.Rows.length<=1125899906842624:=by
 obtain⟨_,_,rfl,h1,h⟩:=oa (eg h);obtain⟨_,_,rfl,h2,h⟩:=oa h;obtain⟨_,_,rfl,h3,h⟩:=oa h;obtain⟨_,_,rfl,h4,h⟩:=oa h;obtain rfl:=look_nil h;obtain⟨s,rfl⟩:=Py h1;obtain⟨a,b,rfl,-,-⟩:=Oy h2;obtain⟨c,d,rfl,-,-⟩:=Oy h3;obtain⟨r,rfl,hr,-⟩:=NO (e:=Cj) (p:=λ_=>True) (λcs h=>by
  obtain⟨_,_,rfl,h1,h⟩:=oa (eg h);obtain⟨_,_,rfl,h2,h⟩:=oa h;obtain⟨_,_,rfl,h3,h⟩:=oa h;obtain⟨_,_,rfl,h4,h⟩:=oa h;obtain rfl:=look_nil h;obtain⟨a,b,rfl,-,-⟩:=Oy h1;obtain⟨x2,rfl,-⟩:=wb h2;obtain⟨x3,rfl,-⟩:=wb h3;obtain⟨x4,rfl,-⟩:=wb h4;exact⟨⟨⟨a,b⟩,x2,x3,x4⟩,rfl,trivial⟩) h4
 exact⟨⟨s,⟨a,b⟩,⟨c,d⟩,r⟩,rfl,by grind⟩
theorem l8{d:D}(h:LookV true shL d):∃x:GLaw,d=xb x/\BS x/\∀t∈x.Tables,t.Rows.length<=1125899906842624:=by
 obtain⟨ds,h,rfl⟩:=h;obtain⟨_,_,rfl,h1,h⟩:=oa (eg h);obtain⟨_,_,rfl,h2,h⟩:=oa h;obtain⟨_,_,rfl,h3,h⟩:=oa h;obtain rfl:=look_nil h;obtain⟨en,rfl,-⟩:=Zp (e:=Nh) (p:=λ_=>True) (λcs h=>by
  obtain⟨_,_,rfl,h1,h⟩:=oa (eg h);obtain⟨_,_,rfl,h2,h⟩:=oa h;obtain rfl:=look_nil h;obtain⟨s,rfl⟩:=Py h1;obtain⟨m,rfl,-⟩:=Zp (e:=fj) (p:=λ_=>True) (λcs h=>by obtain⟨s,rfl⟩:=Py h;exact⟨s,rfl,trivial⟩) h2;exact⟨⟨s,m⟩,rfl,trivial⟩) h1
 obtain⟨tb,rfl,ht⟩:=Zp (λ_=>dec_T) h2;obtain⟨sc,rfl,hs⟩:=Zp (λ_=>dec_S) h3;exact⟨⟨en,tb,sc⟩,rfl,hs,ht⟩
end Go.Proofs.Dev
set_option linter.unusedSimpArgs false
set_option linter.unusedVariables false
set_option maxHeartbeats 1000000
set_option maxRecDepth 10000
namespace Go.Proofs.Dev
open Go Go.Tm
abbrev shX:Sh:=.cat [.int .i64,.int .i64,.int .i64,.cat [.int .i64,.int .i64,.int .i64],.cat [.int .i64,.int .i64],.int .i64]
abbrev shH:Sh:=.cat [.int .i64,.int .i64,.int .i64,.sl 9 true shX]
theorem O5{cs:List D}(h:Qk shX cs):∃x:GFact,Eo true cs=sb x/\True:=by
 obtain⟨_,_,rfl,h1,h⟩:=oa (eg h);obtain⟨_,_,rfl,h2,h⟩:=oa h;obtain⟨_,_,rfl,h3,h⟩:=oa h;obtain⟨_,_,rfl,h4,h⟩:=oa h;obtain⟨_,_,rfl,h5,h⟩:=oa h;obtain⟨_,_,rfl,h6,h⟩:=oa h;obtain rfl:=look_nil h;obtain⟨x1,rfl,-⟩:=wb h1;obtain⟨x2,rfl,-⟩:=wb h2;obtain⟨x3,rfl,-⟩:=wb h3;obtain⟨_,_,rfl,g1,h⟩:=oa (eg h4);obtain⟨_,_,rfl,g2,h⟩:=oa h;obtain⟨_,_,rfl,g3,h⟩:=oa h;obtain rfl:=look_nil h;obtain⟨y1,rfl,-⟩:=wb g1;obtain⟨y2,rfl,-⟩:=wb g2;obtain⟨y3,rfl,-⟩:=wb g3;obtain⟨a,b,rfl,-,-⟩:=Oy h5;obtain⟨x6,rfl,-⟩:=wb h6;exact⟨⟨x1,x2,x3,⟨y1,y2,y3⟩,⟨a,b⟩,x6⟩,rfl,trivial⟩
theorem e8{cs:List D}(h:Qk shH cs):∃x:GHousehold,Eo true cs=ub x/\True:=by
 obtain⟨_,_,rfl,h1,h⟩:=oa (eg h);obtain⟨_,_,rfl,h2,h⟩:=oa h;obtain⟨_,_,rfl,h3,h⟩:=oa h;obtain⟨_,_,rfl,h4,h⟩:=oa h;obtain rfl:=look_nil h;obtain⟨x1,rfl,-⟩:=wb h1;obtain⟨x2,rfl,-⟩:=wb h2;obtain⟨x3,rfl,-⟩:=wb h3;obtain⟨l,rfl,-⟩:=Zp (λ_=>O5) h4;exact⟨⟨x1,x2,x3,l⟩,rfl,trivial⟩
end Go.Proofs.Dev
set_option linter.unusedSimpArgs false
set_option linter.unusedVariables false
set_option maxHeartbeats 1000000
set_option maxRecDepth 10000
namespace Go.Proofs.Dev
open Go Go.Tm
abbrev shC:Sh:=.cat [.int .i64,.int .i64,.int .i64,.int .i64,.int .i64,.int .i64,.int .i64,.cat [.int .i64,.sl 1 false (.int .i64)]]
theorem dec_C{d:D}(h:LookV true shC d):∃x:GPayConfig,d=Da x:=by
 obtain⟨ds,h,rfl⟩:=h;obtain⟨_,_,rfl,h1,h⟩:=oa (eg h);obtain⟨_,_,rfl,h2,h⟩:=oa h;obtain⟨_,_,rfl,h3,h⟩:=oa h;obtain⟨_,_,rfl,h4,h⟩:=oa h;obtain⟨_,_,rfl,h5,h⟩:=oa h;obtain⟨_,_,rfl,h6,h⟩:=oa h;obtain⟨_,_,rfl,h7,h⟩:=oa h;obtain⟨_,_,rfl,h8,h⟩:=oa h;obtain rfl:=look_nil h;obtain⟨x1,rfl,-⟩:=wb h1;obtain⟨x2,rfl,-⟩:=wb h2;obtain⟨x3,rfl,-⟩:=wb h3;obtain⟨x4,rfl,-⟩:=wb h4;obtain⟨x5,rfl,-⟩:=wb h5;obtain⟨x6,rfl,-⟩:=wb h6;obtain⟨x7,rfl,-⟩:=wb h7;obtain⟨_,_,rfl,h9,h⟩:=oa (eg h8);obtain⟨_,_,rfl,h10,h⟩:=oa h;obtain rfl:=look_nil h;obtain⟨x9,rfl,-⟩:=wb h9;obtain⟨l,rfl,-⟩:=Zp (e:=aa) (p:=λ_=>True) (λcs h=>by obtain⟨n,rfl,-⟩:=wb h;exact⟨n,rfl,trivial⟩) h10;exact⟨⟨x1,x2,x3,x4,x5,x6,x7,⟨x9,l⟩⟩,rfl⟩
end Go.Proofs.Dev
set_option linter.unusedSimpArgs false
set_option linter.unusedVariables false
set_option maxHeartbeats 1000000
set_option maxRecDepth 10000
namespace Go.Proofs.Dev
open Go Go.Tm
abbrev shO:Sh:=.cat [.int .i64,.int .i64,.int .i64,.int .i64]
abbrev shP:Sh:=.cat [.int .i64,.int .i64,.int .i64,.int .i64,.int .i64,.int .i64,.int .i64]
abbrev shA:Sh:=.cat [shH,.sl 4 true shO,.sl 7 true shP,.int .i64,.int .i64]
theorem dec_O{cs:List D}(h:Qk shO cs):∃x:GPosting,Eo true cs=ta x/\True:=by
 obtain⟨_,_,rfl,h1,h⟩:=oa (eg h);obtain⟨_,_,rfl,h2,h⟩:=oa h;obtain⟨_,_,rfl,h3,h⟩:=oa h;obtain⟨_,_,rfl,h4,h⟩:=oa h;obtain rfl:=look_nil h;obtain⟨x1,rfl,-⟩:=wb h1;obtain⟨x2,rfl,-⟩:=wb h2;obtain⟨x3,rfl,-⟩:=wb h3;obtain⟨x4,rfl,-⟩:=wb h4;exact⟨⟨x1,x2,x3,x4⟩,rfl,trivial⟩
theorem dec_P{cs:List D}(h:Qk shP cs):∃x:GAppeal,Eo true cs=bb x/\True:=by
 obtain⟨_,_,rfl,h1,h⟩:=oa (eg h);obtain⟨_,_,rfl,h2,h⟩:=oa h;obtain⟨_,_,rfl,h3,h⟩:=oa h;obtain⟨_,_,rfl,h4,h⟩:=oa h;obtain⟨_,_,rfl,h5,h⟩:=oa h;obtain⟨_,_,rfl,h6,h⟩:=oa h;obtain⟨_,_,rfl,h7,h⟩:=oa h;obtain rfl:=look_nil h;obtain⟨x1,rfl,-⟩:=wb h1;obtain⟨x2,rfl,-⟩:=wb h2;obtain⟨x3,rfl,-⟩:=wb h3;obtain⟨x4,rfl,-⟩:=wb h4;obtain⟨x5,rfl,-⟩:=wb h5;obtain⟨x6,rfl,-⟩:=wb h6;obtain⟨x7,rfl,-⟩:=wb h7;exact⟨⟨x1,x2,x3,x4,x5,x6,x7⟩,rfl,trivial⟩
theorem dec_A{d:D}(h:LookV true shA d):∃x:GAccount,d=zb x:=by
 obtain⟨ds,h,rfl⟩:=h;obtain⟨_,_,rfl,h0,h⟩:=oa (eg h);obtain⟨_,_,rfl,h1,h⟩:=oa h;obtain⟨_,_,rfl,h2,h⟩:=oa h;obtain⟨_,_,rfl,h3,h⟩:=oa h;obtain⟨_,_,rfl,h4,h⟩:=oa h;obtain rfl:=look_nil h;obtain⟨x,hx,-⟩:=e8 h0;obtain⟨l,rfl,-⟩:=Zp (λ_=>dec_O) h1;obtain⟨q,rfl,-⟩:=Zp (λ_=>dec_P) h2;obtain⟨x3,rfl,-⟩:=wb h3;obtain⟨x4,rfl,-⟩:=wb h4;injection hx with hx;subst hx;exact⟨⟨x,l,q,x3,x4⟩,rfl⟩
end Go.Proofs.Dev
set_option linter.unusedSimpArgs false
set_option linter.unusedVariables false
set_option maxHeartbeats 1000000
set_option maxRecDepth 10000
namespace Go.Proofs.Dev
open Go Go.Tm
abbrev shV:Sh:=.cat [.int .i64,.int .i64,.int .i64,.int .i64,.int .i64,.int .i64,.int .i64,.int .i64,shX]
theorem dec_V{d:D}(h:LookV true shV d):∃x:GEvent,d=zi x:=by
 obtain⟨ds,h,rfl⟩:=h;obtain⟨_,_,rfl,h1,h⟩:=oa (eg h);obtain⟨_,_,rfl,h2,h⟩:=oa h;obtain⟨_,_,rfl,h3,h⟩:=oa h;obtain⟨_,_,rfl,h4,h⟩:=oa h;obtain⟨_,_,rfl,h5,h⟩:=oa h;obtain⟨_,_,rfl,h6,h⟩:=oa h;obtain⟨_,_,rfl,h7,h⟩:=oa h;obtain⟨_,_,rfl,h8,h⟩:=oa h;obtain⟨_,_,rfl,h9,h⟩:=oa h;obtain rfl:=look_nil h;obtain⟨x1,rfl,-⟩:=wb h1;obtain⟨x2,rfl,-⟩:=wb h2;obtain⟨x3,rfl,-⟩:=wb h3;obtain⟨x4,rfl,-⟩:=wb h4;obtain⟨x5,rfl,-⟩:=wb h5;obtain⟨x6,rfl,-⟩:=wb h6;obtain⟨x7,rfl,-⟩:=wb h7;obtain⟨x8,rfl,-⟩:=wb h8;obtain⟨f,hf,-⟩:=O5 h9;injection hf with hf;subst hf;exact⟨⟨x1,x2,x3,x4,x5,x6,x7,x8,f⟩,rfl⟩
end Go.Proofs.Dev
set_option linter.unusedVariables false
namespace Go.Proofs.Dev
open Go Go.Tm
theorem law_call(a b c d:D) (h1:LookV true shL a) (h2:LookV true shC b) (h3:LookV true shA c) (h4:LookV true shV d):CallT Tryz.prog 3 [a,b,c,d] [] λx _=>x=.v (.bool true):=by
 obtain⟨l,rfl,hl,hz⟩:=l8 h1;obtain⟨x,rfl⟩:=dec_C h2;obtain⟨y,rfl⟩:=dec_A h3;obtain⟨z,rfl⟩:=dec_V h4;exact(An (Uu mG hz hl x y z) []).mono λ_ _ h=>h.1
end Go.Proofs.Dev
