/-
  The contract of the function of the statement: for all arguments of its types.
-/
import Derived.Test.YtmhfebelfmgckaaGreatDoorPE
import Derived.Test.YtmhfebelfmgckaaGreatDoorQ11
set_option linter.all false
set_option maxHeartbeats 1000000
set_option maxRecDepth 10000
set_option linter.unusedSimpArgs false
set_option linter.unusedVariables false
set_option maxHeartbeats 1000000
set_option maxRecDepth 10000
namespace Go.Proofs.Dev
open Go Go.Tm
variable {α:Type}{e:α->D}{p:α->Prop}{S B:Nat}{A:Bool}{s:Sh}{l:List Sh}{cs:List D}
theorem Qe{ds:List D}(h:ep (.int .i64) ds):∃n:Int,ds=[.v (.int .i64 n)]/\-9223372036854775808<=n/\n<=9223372036854775807:=by
 simp only[ep]at h;obtain⟨n,rfl,hw⟩:=h;refine⟨n,rfl,?_⟩;simp[Lit.wf]at hw;have h1:IntKind.i64.min = -9223372036854775808:=by decide
 omega
theorem dE{ds:List D}(h:ep .str ds):∃n:ByteArray,ds=[.v (.string n)]:=by
 simp only[ep]at h
 grind
theorem HO{ds:List D}(he:∀cs,ep s cs->∃x,uu A cs=e x/\p x) (h:ep (.sl S B A s) ds):∃l:List α,ds=[.sl S (l.map e)]/\l.length*B<=140737488355328/\∀x∈l,p x:=by
 simp only[ep]at h;obtain⟨l,rfl,hn,hl⟩:=h;have:∀l:List D,(∀d∈l,∃cs,ep s cs/\d=uu A cs)->∃r:List α,l=r.map e/\∀x∈r,p x:=by
  intro l
  induction l with
  |nil=>simp
  |cons d l ih=>
   intro h;obtain⟨r,rfl,hr⟩:=ih λd hd=>h d (by grind);obtain⟨cs,h1,rfl⟩:=h d (by simp);obtain⟨x,h2,h3⟩:=he cs h1;refine⟨x::r,by simp_all,λy hy=>?_⟩
   grind
 obtain⟨r,rfl,hr⟩:=this l hl
 grind
theorem Wy{ds:List D}(he:∀cs,ep s cs->∃x,uu A cs=e x/\p x) (h:ep (.sl S B A s) ds):∃l:List α,ds=[.sl S (l.map e)]/\∀x∈l,p x:=by
 obtain⟨r,h1,-,h2⟩:=HO he h
 grind
theorem look_nil{ds:List D}(h:cy [] ds):ds=[]:=by simpa only[cy] using h
theorem wa{ds:List D}(h:cy (s::l) ds):∃a b,ds=a++b/\ep s a/\cy l b:=by simpa only[cy] using h
theorem Ik{ds:List D}(h:ep (.cat l) ds):cy l ds:=by simpa only[ep] using h
theorem cE{ds:List D}(h:ep (.cat [.int .i64,.int .i64]) ds):∃n m:Int,ds=[.v (.int .i64 n),.v (.int .i64 m)]/\(-9223372036854775808<=n/\n<=9223372036854775807)/\(-9223372036854775808<=m/\m<=9223372036854775807):=by
 obtain⟨a,b,rfl,h1,h⟩:=wa (Ik h);obtain⟨c,d,rfl,h2,h⟩:=wa h;obtain rfl:=look_nil h;obtain⟨n,rfl,hn⟩:=Qe h1;obtain⟨m,rfl,hm⟩:=Qe h2
 grind
abbrev shF:Sh:=.cat [.str,.cat [.int .i64,.int .i64]]
abbrev shN:Sh:=.cat [.int .i64,.int .i64]
abbrev shR:Sh:=.cat [.str,.int .i64,.int .i64,.int .i64,.cat [.int .i64,.int .i64],.sl 2 16 true shN,.sl 2 16 true shN,.str]
abbrev shS:Sh:=.cat [.str,.int .i64,.sl 3 32 true shF,.sl 3 32 true shF,.sl 9 120 true shR]
abbrev shT:Sh:=.cat [.str,.cat [.int .i64,.int .i64],.cat [.int .i64,.int .i64],.sl 5 40 true (.cat [.cat [.int .i64,.int .i64],.int .i64,.int .i64,.int .i64])]
abbrev shL:Sh:=.cat [.sl 2 40 true (.cat [.str,.sl 1 16 false .str]),.sl 6 72 true shT,.sl 5 96 true shS]
theorem dec_N(h:ep shN cs):∃x:GNode,uu true cs=Oh x/\Kb x:=by
 obtain⟨n,m,rfl,hn,hm⟩:=cE h;exact⟨⟨n,m⟩,rfl,by unfold Kb;omega⟩
theorem dec_F(h:ep shF cs):∃x:GField,uu true cs=Ce x/\True:=by
 obtain⟨a,b,rfl,h1,h⟩:=wa (Ik h);obtain⟨c,d,rfl,h2,h⟩:=wa h;obtain rfl:=look_nil h;obtain⟨s,rfl⟩:=dE h1;obtain⟨n,m,rfl,hn,hm⟩:=cE h2;exact⟨⟨s,⟨n,m⟩⟩,rfl,trivial⟩
theorem dec_R(h:ep shR cs):∃x:GRule,uu true cs=mg x/\(∀n∈x.ac,Kb n)/\∀n∈x.Value,Kb n:=by
 obtain⟨_,_,rfl,h1,h⟩:=wa (Ik h);obtain⟨_,_,rfl,h2,h⟩:=wa h;obtain⟨_,_,rfl,h3,h⟩:=wa h;obtain⟨_,_,rfl,h4,h⟩:=wa h;obtain⟨_,_,rfl,h5,h⟩:=wa h;obtain⟨_,_,rfl,h6,h⟩:=wa h;obtain⟨_,_,rfl,h7,h⟩:=wa h;obtain⟨_,_,rfl,h8,h⟩:=wa h;obtain rfl:=look_nil h;obtain⟨s,rfl⟩:=dE h1;obtain⟨x2,rfl,-⟩:=Qe h2;obtain⟨x3,rfl,-⟩:=Qe h3;obtain⟨x4,rfl,-⟩:=Qe h4;obtain⟨n,m,rfl,-,-⟩:=cE h5;obtain⟨g,rfl,hg⟩:=Wy (λ_=>dec_N) h6;obtain⟨v,rfl,hv⟩:=Wy (λ_=>dec_N) h7;obtain⟨t,rfl⟩:=dE h8;exact⟨⟨s,x2,x3,x4,⟨n,m⟩,g,v,t⟩,rfl,hg,hv⟩
theorem dec_S(h:ep shS cs):∃x:GScope,uu true cs=De x/\∀r∈x.f,(∀n∈r.ac,Kb n)/\∀n∈r.Value,Kb n:=by
 obtain⟨_,_,rfl,h1,h⟩:=wa (Ik h);obtain⟨_,_,rfl,h2,h⟩:=wa h;obtain⟨_,_,rfl,h3,h⟩:=wa h;obtain⟨_,_,rfl,h4,h⟩:=wa h;obtain⟨_,_,rfl,h5,h⟩:=wa h;obtain rfl:=look_nil h;obtain⟨s,rfl⟩:=dE h1;obtain⟨x2,rfl,-⟩:=Qe h2;obtain⟨a,rfl,-⟩:=Wy (λ_=>dec_F) h3;obtain⟨b,rfl,-⟩:=Wy (λ_=>dec_F) h4;obtain⟨r,rfl,hr⟩:=Wy (λ_=>dec_R) h5;exact⟨⟨s,x2,a,b,r⟩,rfl,hr⟩
theorem dec_T(h:ep shT cs):∃x:GTable,uu true cs=qi x/\x.Rows.length<=1125899906842624:=by
 obtain⟨_,_,rfl,h1,h⟩:=wa (Ik h);obtain⟨_,_,rfl,h2,h⟩:=wa h;obtain⟨_,_,rfl,h3,h⟩:=wa h;obtain⟨_,_,rfl,h4,h⟩:=wa h;obtain rfl:=look_nil h;obtain⟨s,rfl⟩:=dE h1;obtain⟨a,b,rfl,-,-⟩:=cE h2;obtain⟨c,d,rfl,-,-⟩:=cE h3;obtain⟨r,rfl,hr,-⟩:=HO (e:=tt) (p:=λ_=>True) (λcs h=>by
  obtain⟨_,_,rfl,h1,h⟩:=wa (Ik h);obtain⟨_,_,rfl,h2,h⟩:=wa h;obtain⟨_,_,rfl,h3,h⟩:=wa h;obtain⟨_,_,rfl,h4,h⟩:=wa h;obtain rfl:=look_nil h;obtain⟨a,b,rfl,-,-⟩:=cE h1;obtain⟨x2,rfl,-⟩:=Qe h2;obtain⟨x3,rfl,-⟩:=Qe h3;obtain⟨x4,rfl,-⟩:=Qe h4;exact⟨⟨⟨a,b⟩,x2,x3,x4⟩,rfl,trivial⟩) h4
 exact⟨⟨s,⟨a,b⟩,⟨c,d⟩,r⟩,rfl,by grind⟩
theorem dec_LZ{d:D}(h:LookV true shL d):∃x:GLaw,d=mA x/\K2 x/\∀t∈x.Tables,t.Rows.length<=1125899906842624:=by
 obtain⟨ds,h,rfl⟩:=h;obtain⟨_,_,rfl,h1,h⟩:=wa (Ik h);obtain⟨_,_,rfl,h2,h⟩:=wa h;obtain⟨_,_,rfl,h3,h⟩:=wa h;obtain rfl:=look_nil h;obtain⟨en,rfl,-⟩:=Wy (e:=Bq) (p:=λ_=>True) (λcs h=>by
  obtain⟨_,_,rfl,h1,h⟩:=wa (Ik h);obtain⟨_,_,rfl,h2,h⟩:=wa h;obtain rfl:=look_nil h;obtain⟨s,rfl⟩:=dE h1;obtain⟨m,rfl,-⟩:=Wy (e:=EA) (p:=λ_=>True) (λcs h=>by obtain⟨s,rfl⟩:=dE h;exact⟨s,rfl,trivial⟩) h2;exact⟨⟨s,m⟩,rfl,trivial⟩) h1
 obtain⟨tb,rfl,ht⟩:=Wy (λ_=>dec_T) h2;obtain⟨sc,rfl,hs⟩:=Wy (λ_=>dec_S) h3;exact⟨⟨en,tb,sc⟩,rfl,hs,ht⟩
end Go.Proofs.Dev
set_option linter.unusedSimpArgs false
set_option linter.unusedVariables false
set_option maxHeartbeats 1000000
set_option maxRecDepth 10000
namespace Go.Proofs.Dev
open Go Go.Tm
variable {cs:List D}
abbrev shX:Sh:=.cat [.int .i64,.int .i64,.int .i64,.cat [.int .i64,.int .i64,.int .i64],.cat [.int .i64,.int .i64],.int .i64]
abbrev shH:Sh:=.cat [.int .i64,.int .i64,.int .i64,.sl 9 72 true shX]
theorem dec_X(h:ep shX cs):∃x:GFact,uu true cs=jt x/\True:=by
 obtain⟨_,_,rfl,h1,h⟩:=wa (Ik h);obtain⟨_,_,rfl,h2,h⟩:=wa h;obtain⟨_,_,rfl,h3,h⟩:=wa h;obtain⟨_,_,rfl,h4,h⟩:=wa h;obtain⟨_,_,rfl,h5,h⟩:=wa h;obtain⟨_,_,rfl,h6,h⟩:=wa h;obtain rfl:=look_nil h;obtain⟨x1,rfl,-⟩:=Qe h1;obtain⟨x2,rfl,-⟩:=Qe h2;obtain⟨x3,rfl,-⟩:=Qe h3;obtain⟨_,_,rfl,g1,h⟩:=wa (Ik h4);obtain⟨_,_,rfl,g2,h⟩:=wa h;obtain⟨_,_,rfl,g3,h⟩:=wa h;obtain rfl:=look_nil h;obtain⟨y1,rfl,-⟩:=Qe g1;obtain⟨y2,rfl,-⟩:=Qe g2;obtain⟨y3,rfl,-⟩:=Qe g3;obtain⟨a,b,rfl,-,-⟩:=cE h5;obtain⟨x6,rfl,-⟩:=Qe h6;exact⟨⟨x1,x2,x3,⟨y1,y2,y3⟩,⟨a,b⟩,x6⟩,rfl,trivial⟩
theorem dec_Hs(h:ep shH cs):∃x:GHousehold,uu true cs=Cq x/\x.aa.length*72<=140737488355328:=by
 obtain⟨_,_,rfl,h1,h⟩:=wa (Ik h);obtain⟨_,_,rfl,h2,h⟩:=wa h;obtain⟨_,_,rfl,h3,h⟩:=wa h;obtain⟨_,_,rfl,h4,h⟩:=wa h;obtain rfl:=look_nil h;obtain⟨x1,rfl,-⟩:=Qe h1;obtain⟨x2,rfl,-⟩:=Qe h2;obtain⟨x3,rfl,-⟩:=Qe h3;obtain⟨l,rfl,hl,-⟩:=HO (λ_=>dec_X) h4;exact⟨⟨x1,x2,x3,l⟩,rfl,hl⟩
theorem dec_H{d:D}(h:LookV true shH d):∃x:GHousehold,d=Cq x:=by
 obtain⟨ds,h,rfl⟩:=h;obtain⟨x,h,-⟩:=dec_Hs h;exact⟨x,h⟩
end Go.Proofs.Dev
set_option linter.unusedSimpArgs false
set_option linter.unusedVariables false
set_option maxHeartbeats 1000000
set_option maxRecDepth 10000
namespace Go.Proofs.Dev
open Go Go.Tm
abbrev shC:Sh:=.cat [.int .i64,.int .i64,.int .i64,.int .i64,.int .i64,.int .i64,.int .i64,.cat [.int .i64,.sl 1 8 false (.int .i64)]]
theorem dec_C{d:D}(h:LookV true shC d):∃x:GPayConfig,d=qt x:=by
 obtain⟨ds,h,rfl⟩:=h;obtain⟨_,_,rfl,h1,h⟩:=wa (Ik h);obtain⟨_,_,rfl,h2,h⟩:=wa h;obtain⟨_,_,rfl,h3,h⟩:=wa h;obtain⟨_,_,rfl,h4,h⟩:=wa h;obtain⟨_,_,rfl,h5,h⟩:=wa h;obtain⟨_,_,rfl,h6,h⟩:=wa h;obtain⟨_,_,rfl,h7,h⟩:=wa h;obtain⟨_,_,rfl,h8,h⟩:=wa h;obtain rfl:=look_nil h;obtain⟨x1,rfl,-⟩:=Qe h1;obtain⟨x2,rfl,-⟩:=Qe h2;obtain⟨x3,rfl,-⟩:=Qe h3;obtain⟨x4,rfl,-⟩:=Qe h4;obtain⟨x5,rfl,-⟩:=Qe h5;obtain⟨x6,rfl,-⟩:=Qe h6;obtain⟨x7,rfl,-⟩:=Qe h7;obtain⟨_,_,rfl,h9,h⟩:=wa (Ik h8);obtain⟨_,_,rfl,h10,h⟩:=wa h;obtain rfl:=look_nil h;obtain⟨x9,rfl,-⟩:=Qe h9;obtain⟨l,rfl,-⟩:=Wy (e:=da) (p:=λ_=>True) (λcs h=>by obtain⟨n,rfl,-⟩:=Qe h;exact⟨n,rfl,trivial⟩) h10;exact⟨⟨x1,x2,x3,x4,x5,x6,x7,⟨x9,l⟩⟩,rfl⟩
end Go.Proofs.Dev
set_option linter.unusedSimpArgs false
set_option linter.unusedVariables false
namespace Go.Proofs.Dev
open Go Go.Tm
abbrev shQ:Sh:=.cat [.int .i64,.int .i64,.int .i64]
theorem dec_Q{d:D}(h:LookV true shQ d):∃x:GGuerdonlaw36_Query,d=vg x:=by
 obtain⟨ds,h,rfl⟩:=h;obtain⟨_,_,rfl,h1,h⟩:=wa (Ik h);obtain⟨_,_,rfl,h2,h⟩:=wa h;obtain⟨_,_,rfl,h3,h⟩:=wa h;obtain rfl:=look_nil h;obtain⟨x1,rfl,-⟩:=Qe h1;obtain⟨x2,rfl,-⟩:=Qe h2;obtain⟨x3,rfl,-⟩:=Qe h3;exact⟨⟨x1,x2,x3⟩,rfl⟩
end Go.Proofs.Dev
set_option linter.unusedVariables false
namespace Go.Proofs.Dev
open Go Go.Tm
theorem law_call(a b c d:D) (h1:LookV true shL a) (h2:LookV true shH b) (h3:LookV true shC c) (h4:LookV true shQ d):CallT Tryz.prog 3 [a,b,c,d] [] λx _=>x=.v (.bool true):=by
 obtain⟨l,rfl,hl,hz⟩:=dec_LZ h1;obtain⟨x,rfl⟩:=dec_H h2;obtain⟨y,rfl⟩:=dec_C h3;obtain⟨z,rfl⟩:=dec_Q h4;exact(uA (QC LP hz hl x y z) []).mono λ_ _ h=>h.1
end Go.Proofs.Dev
