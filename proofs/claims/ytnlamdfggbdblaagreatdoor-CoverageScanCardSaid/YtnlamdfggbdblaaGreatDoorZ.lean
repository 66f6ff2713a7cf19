/-
  The contract of the function of the statement: for all arguments of its types.
-/
import Derived.Test.YtnlamdfggbdblaaGreatDoorPD
import Derived.Test.YtnlamdfggbdblaaGreatDoorQ12
set_option linter.all false
set_option maxHeartbeats 1000000
set_option maxRecDepth 10000
set_option linter.unusedSimpArgs false
set_option linter.unusedVariables false
set_option maxHeartbeats 1000000
set_option maxRecDepth 10000
namespace Go.Proofs.Dev
open Go Go.Tm
theorem Et{ds:List D}(h:Rl (.int .i64) ds):∃n:Int,ds=[.v (.int .i64 n)]/\-9223372036854775808<=n/\n<=9223372036854775807:=by
 simp only[Rl]at h;obtain⟨n,rfl,hw⟩:=h;refine⟨n,rfl,?_⟩;simp[Lit.wf]at hw;have h1:IntKind.i64.min = -9223372036854775808:=by decide
 have h2:IntKind.i64.max=9223372036854775807:=by decide
 omega
theorem Zx{ds:List D}(h:Rl .str ds):∃n:ByteArray,ds=[.v (.string n)]:=by
 simp only[Rl]at h;obtain⟨n,rfl,hw⟩:=h;exact⟨n,rfl⟩
theorem LK{α:Type}{e:α->D}{p:α->Prop}{S:Nat}{A:Bool}{s:Sh}{ds:List D}(he:∀cs,Rl s cs->∃x,Kq A cs=e x/\p x) (h:Rl (.sl S A s) ds):∃l:List α,ds=[.sl S (l.map e)]/\l.length<=140737488355328/\∀x∈l,p x:=by
 simp only[Rl]at h;obtain⟨l,rfl,hn,hl⟩:=h;have:∀l:List D,(∀d∈l,∃cs,Rl s cs/\d=Kq A cs)->∃r:List α,l=r.map e/\∀x∈r,p x:=by
  intro l
  induction l with
  |nil=>exact λ_=>⟨[],rfl,λx hx=>by cases hx⟩
  |cons d l ih=>
   intro h;obtain⟨r,rfl,hr⟩:=ih λd hd=>h d (by simp[hd]);obtain⟨cs,h1,rfl⟩:=h d (by simp);obtain⟨x,h2,h3⟩:=he cs h1;refine⟨x::r,by rw[h2];rfl,λy hy=>?_⟩;rcases List.mem_cons.1 hy with rfl|hy
   .exact h3
   .exact hr y hy
 obtain⟨r,rfl,hr⟩:=this l hl;exact⟨r,rfl,by simpa using hn,hr⟩
theorem Nu{α:Type}{e:α->D}{p:α->Prop}{S:Nat}{A:Bool}{s:Sh}{ds:List D}(he:∀cs,Rl s cs->∃x,Kq A cs=e x/\p x) (h:Rl (.sl S A s) ds):∃l:List α,ds=[.sl S (l.map e)]/\∀x∈l,p x:=by
 obtain⟨r,h1,-,h2⟩:=LK he h;exact⟨r,h1,h2⟩
theorem Wp{ds:List D}(h:Gs [] ds):ds=[]:=by simpa only[Gs] using h
theorem Za{s:Sh}{l:List Sh}{ds:List D}(h:Gs (s::l) ds):∃a b,ds=a++b/\Rl s a/\Gs l b:=by simpa only[Gs] using h
theorem Vp{l:List Sh}{ds:List D}(h:Rl (.cat l) ds):Gs l ds:=by simpa only[Rl] using h
theorem CA{ds:List D}(h:Rl (.cat [.int .i64,.int .i64]) ds):∃n m:Int,ds=[.v (.int .i64 n),.v (.int .i64 m)]/\(-9223372036854775808<=n/\n<=9223372036854775807)/\(-9223372036854775808<=m/\m<=9223372036854775807):=by
 obtain⟨a,b,rfl,h1,h⟩:=Za (Vp h);obtain⟨c,d,rfl,h2,h⟩:=Za h;obtain rfl:=Wp h;obtain⟨n,rfl,hn⟩:=Et h1;obtain⟨m,rfl,hm⟩:=Et h2;exact⟨n,m,rfl,hn,hm⟩
abbrev shF:Sh:=.cat [.str,.cat [.int .i64,.int .i64]]
abbrev shN:Sh:=.cat [.int .i64,.int .i64]
abbrev shR:Sh:=.cat [.str,.int .i64,.int .i64,.int .i64,.cat [.int .i64,.int .i64],.sl 2 true shN,.sl 2 true shN,.str]
abbrev shS:Sh:=.cat [.str,.int .i64,.sl 3 true shF,.sl 3 true shF,.sl 9 true shR]
abbrev shT:Sh:=.cat [.str,.cat [.int .i64,.int .i64],.cat [.int .i64,.int .i64],.sl 5 true (.cat [.cat [.int .i64,.int .i64],.int .i64,.int .i64,.int .i64])]
abbrev shL:Sh:=.cat [.sl 2 true (.cat [.str,.sl 1 false .str]),.sl 6 true shT,.sl 5 true shS]
theorem MV{cs:List D}(h:Rl shN cs):∃x:GNode,Kq true cs=Ga x/\xb x:=by
 obtain⟨n,m,rfl,hn,hm⟩:=CA h;exact⟨⟨n,m⟩,rfl,by unfold xb;dsimp only;omega⟩
theorem LV{cs:List D}(h:Rl shF cs):∃x:GField,Kq true cs=eb x/\True:=by
 obtain⟨a,b,rfl,h1,h⟩:=Za (Vp h);obtain⟨c,d,rfl,h2,h⟩:=Za h;obtain rfl:=Wp h;obtain⟨s,rfl⟩:=Zx h1;obtain⟨n,m,rfl,hn,hm⟩:=CA h2;exact⟨⟨s,⟨n,m⟩⟩,rfl,trivial⟩
theorem Q0{cs:List D}(h:Rl shR cs):∃x:GRule,Kq true cs=bb x/\(∀n∈x.Guard,xb n)/\∀n∈x.Value,xb n:=by
 obtain⟨_,_,rfl,h1,h⟩:=Za (Vp h);obtain⟨_,_,rfl,h2,h⟩:=Za h;obtain⟨_,_,rfl,h3,h⟩:=Za h;obtain⟨_,_,rfl,h4,h⟩:=Za h;obtain⟨_,_,rfl,h5,h⟩:=Za h;obtain⟨_,_,rfl,h6,h⟩:=Za h;obtain⟨_,_,rfl,h7,h⟩:=Za h;obtain⟨_,_,rfl,h8,h⟩:=Za h;obtain rfl:=Wp h;obtain⟨s,rfl⟩:=Zx h1;obtain⟨x2,rfl,-⟩:=Et h2;obtain⟨x3,rfl,-⟩:=Et h3;obtain⟨x4,rfl,-⟩:=Et h4;obtain⟨n,m,rfl,-,-⟩:=CA h5;obtain⟨g,rfl,hg⟩:=Nu (λ_=>MV) h6;obtain⟨v,rfl,hv⟩:=Nu (λ_=>MV) h7;obtain⟨t,rfl⟩:=Zx h8;exact⟨⟨s,x2,x3,x4,⟨n,m⟩,g,v,t⟩,rfl,hg,hv⟩
theorem S0{cs:List D}(h:Rl shS cs):∃x:GScope,Kq true cs=Da x/\∀r∈x.Rules,(∀n∈r.Guard,xb n)/\∀n∈r.Value,xb n:=by
 obtain⟨_,_,rfl,h1,h⟩:=Za (Vp h);obtain⟨_,_,rfl,h2,h⟩:=Za h;obtain⟨_,_,rfl,h3,h⟩:=Za h;obtain⟨_,_,rfl,h4,h⟩:=Za h;obtain⟨_,_,rfl,h5,h⟩:=Za h;obtain rfl:=Wp h;obtain⟨s,rfl⟩:=Zx h1;obtain⟨x2,rfl,-⟩:=Et h2;obtain⟨a,rfl,-⟩:=Nu (λ_=>LV) h3;obtain⟨b,rfl,-⟩:=Nu (λ_=>LV) h4;obtain⟨r,rfl,hr⟩:=Nu (λ_=>Q0) h5;exact⟨⟨s,x2,a,b,r⟩,rfl,hr⟩
theorem T0{cs:List D}(h:Rl shT cs):∃x:GTable,Kq true cs=mb x/\x.Rows.length<=1125899906842624:=by
 obtain⟨_,_,rfl,h1,h⟩:=Za (Vp h);obtain⟨_,_,rfl,h2,h⟩:=Za h;obtain⟨_,_,rfl,h3,h⟩:=Za h;obtain⟨_,_,rfl,h4,h⟩:=Za h;obtain rfl:=Wp h;obtain⟨s,rfl⟩:=Zx h1;obtain⟨a,b,rfl,-,-⟩:=CA h2;obtain⟨c,d,rfl,-,-⟩:=CA h3;obtain⟨r,rfl,hr,-⟩:=LK (e:=Eg) (p:=λ_=>True) (λcs h=>by
  obtain⟨_,_,rfl,h1,h⟩:=Za (Vp h);obtain⟨_,_,rfl,h2,h⟩:=Za h;obtain⟨_,_,rfl,h3,h⟩:=Za h;obtain⟨_,_,rfl,h4,h⟩:=Za h;obtain rfl:=Wp h;obtain⟨a,b,rfl,-,-⟩:=CA h1;obtain⟨x2,rfl,-⟩:=Et h2;obtain⟨x3,rfl,-⟩:=Et h3;obtain⟨x4,rfl,-⟩:=Et h4;exact⟨⟨⟨a,b⟩,x2,x3,x4⟩,rfl,trivial⟩) h4
 exact⟨⟨s,⟨a,b⟩,⟨c,d⟩,r⟩,rfl,by dsimp only;omega⟩
theorem lX{d:D}(h:LookV true shL d):∃x:GLaw,d=Jb x/\fH x/\∀t∈x.Tables,t.Rows.length<=1125899906842624:=by
 obtain⟨ds,h,rfl⟩:=h;obtain⟨_,_,rfl,h1,h⟩:=Za (Vp h);obtain⟨_,_,rfl,h2,h⟩:=Za h;obtain⟨_,_,rfl,h3,h⟩:=Za h;obtain rfl:=Wp h;obtain⟨en,rfl,-⟩:=Nu (e:=Af) (p:=λ_=>True) (λcs h=>by
  obtain⟨_,_,rfl,h1,h⟩:=Za (Vp h);obtain⟨_,_,rfl,h2,h⟩:=Za h;obtain rfl:=Wp h;obtain⟨s,rfl⟩:=Zx h1;obtain⟨m,rfl,-⟩:=Nu (e:=Df) (p:=λ_=>True) (λcs h=>by obtain⟨s,rfl⟩:=Zx h;exact⟨s,rfl,trivial⟩) h2;exact⟨⟨s,m⟩,rfl,trivial⟩) h1
 obtain⟨tb,rfl,ht⟩:=Nu (λ_=>T0) h2;obtain⟨sc,rfl,hs⟩:=Nu (λ_=>S0) h3;exact⟨⟨en,tb,sc⟩,rfl,hs,ht⟩
theorem P0{d:D}(h:LookV true shL d):∃x:GLaw,d=Jb x/\fH x:=by
 obtain⟨x,h1,h2,-⟩:=lX h;exact⟨x,h1,h2⟩
theorem rO{d:D}(h:LookV false (.int .i64) d):∃n:Int,d=aa n:=by
 obtain⟨ds,h,rfl⟩:=h;obtain⟨n,rfl,-⟩:=Et h;exact⟨n,rfl⟩
end Go.Proofs.Dev
set_option linter.unusedVariables false
namespace Go.Proofs.Dev
open Go Go.Tm
theorem law_call(a b c:D) (h1:LookV true shL a) (h2:LookV false (.int .i64) b) (h3:LookV false (.int .i64) c):CallT Tryz.prog 4 [a,b,c] [] λx _=>x=.v (.bool true):=by
 obtain⟨l,rfl,hl⟩:=P0 h1;obtain⟨x,rfl⟩:=rO h2;obtain⟨y,rfl⟩:=rO h3;exact(Cad (NI wE hl x y) []).mono λ_ _ h=>h.1
end Go.Proofs.Dev
