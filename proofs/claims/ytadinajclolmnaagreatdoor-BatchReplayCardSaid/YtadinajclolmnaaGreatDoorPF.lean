/-
  The functions as plain partial functions, and plain lemmas about them: no condition.
-/
import Derived.Test.YtadinajclolmnaaGreatDoorPE
open Bool renaming true->a29,false->a30
open Option renaming some->M,none->u4
open Decidable renaming decide->D1
open Go.Tm.Ex renaming go->n?
open ByteArray renaming mk->z?
open Classical renaming not_not->E!
open List renaming append_assoc->H!,append_nil->R?,drop_zero->Eag,flatMap_cons->Nag,getElem_mem->E',getElem_of_mem->O',length_append->G!,length_cons->w!,length_map->Kaf,length_nil->A?,length_take->U',map_append->ψ,map_congr_left->cag,map_cons->w?,map_id->Eai,map_map->Cah,map_nil->D!,mem_cons->X',mem_map->V!,mem_of_mem_take->Xaf,mem_singleton->pag,nil_append->G?,take_append_getElem->oah,take_length->υ,take_succ_cons->Χ,take_zero->Bag,length->a00
open Nat renaming add_sub_cancel_left->Pag,le_refl->A'
open Option renaming bind->e?,bind_some->b?,getD_some->aah
set_option linter.all false
set_option maxRecDepth 10000
set_option maxHeartbeats 1000000
namespace Go.Proofs.Dev
noncomputable section
open Go Go.Tm
variable {h n b:Int}{P:List cb}{k:Nat}{rs:List ma}{A:List ic}
theorem FV{c:ve}(hc:c.al.length<=1048576) (d:Int):∃b,Ff c d=M b/\(b=a29->0<=d/\d<=109572):=by
 unfold Ff Pb;obtain⟨v,hv⟩:=vQ hc;rw[hv,b?]
 cases v with
 |false=>exact⟨a30,rfl,λh=>by cases h⟩
 |true=>
  by_cases h:0<=d/\d<=109572
  .obtain⟨w,hw⟩:=ON hc h;refine⟨w,?_,λ_=>h⟩;simp[h,hw]
  .refine⟨a30,?_,λh=>by cases h⟩;rw[J rfl];by_cases a:0<=d
   .simp[a,show¬d<=109572 by omega]
   .simp[a]
theorem NP(t:Int):∃d,Zl t=M d/\0<=d/\d<=31:=by
 unfold Zl;rw[vx,b?];by_cases h:0<=t/\t<=3599
 .obtain⟨e1,e2⟩:=HB h.1 h.2;have:=Ll (y:=1900+((t.toNat / 12:Nat):Int)) (m:=((t.toNat % 12:Nat):Int)+1);rw[s7 (by simp[h]),e1,e2,Rb (y:=1900+((t.toNat / 12:Nat):Int)) (m:=((t.toNat % 12:Nat):Int)+1) U U U,b?];exact⟨_,rfl,U,U⟩
 .exact⟨0,by simp[h],U,U⟩
theorem TZ{c:ve}(hc:c.al.length<=1048576) (m a:Int):∃r,Fh m c a=M r/\(r.2=0->0<=r.1/\r.1<=109572):=by
 unfold Fh;obtain⟨v,hv⟩:=vQ hc;obtain⟨b,hb⟩:∃b:Bool,(e? (tc c) λl=>if l=a29 then if¬a<1 then M (D1 (31<a))else M a29 else M a29)=M b:=by
  rw[hv,b?];split
  .split<;>exact⟨_,rfl⟩
  .exact⟨_,rfl⟩
 rw[hb,b?]
 cases b with
 |true=>exact⟨_,rfl,λh=>by simp at h⟩
 |false=>
  rw[s7 p6,ux,b?];by_cases h:(Rc m).2=0
  case neg=>exact⟨_,by rw[J h],λi=>absurd i h⟩
  obtain⟨d,d1,d2,d3⟩:=NP m;have hr:=vB h;rw[s7 (E!.2 h),d1,b?];rcases Rw (s:=Vk c) (λx=>-9223372036854775808<=x/\x<9223372036854775808) (λx=>(x+1).toNat) (λ_=>True) (λr=>r.2=0->0<=r.1/\r.1<=109572) (by
   intro x hx;unfold Vk;by_cases f:0<=x
   .obtain⟨w,j,k⟩:=FV hc x;rw[J f,j,b?]
    cases w with
    |true=>exact .inr (.inr ⟨_,rfl,λ_=>k rfl⟩)
    |false=>exact .inl ⟨_,rfl,by rw[m? U U];omega,by rw[m? U U];omega⟩
   .rw[s7 f];exact .inr (.inl ⟨_,rfl,trivial⟩)) (x:=aa .i64 (aa .i64 ((Rc m).1.r+min a d)-1)) (by grind[aa,BC])with⟨b,e,-⟩|⟨b,e,g⟩
  .rw[e];exact⟨_,rfl,λh=>by simp at h⟩
  .rw[e];exact⟨_,rfl,g⟩
def Oz(h m:Int):Prop:=(0<=h/\h<=1048576)/\0<=m/\m<=3599
theorem aA1{m:Int}(k:Oz h m):kp h m=M (h*4096+m,0):=by
 obtain⟨⟨h1,h2⟩,h3,h4⟩:=k;unfold kp;rw[J,J,J,b?,R1 U,s7 p6,m? (n:=h*4096) U U,m? U U]
theorem bN6{m:Int}(k:¬Oz h m):kp h m=M (0,3):=by
 unfold kp Oz at *;have:∃b:Bool,(if¬h<0 then if¬1048576<h then if¬m<0 then M (D1 (3599<m))else M a29 else M a29 else M a29)=M b/\b=a29:=by
  by_cases a:h<0
  .exact⟨a29,by simp[a],rfl⟩
  by_cases h2:1048576<h
  .exact⟨a29,by simp[a,h2],rfl⟩
  by_cases c:m<0
  .exact⟨a29,by simp[a,h2,c],rfl⟩
  exact⟨a29,by simp[a,h2,c];omega,rfl⟩
 obtain⟨b,hb,rfl⟩:=this;rw[hb];rfl
def yr(n:Int):Prop:=-9223372036854775808<=n/\n<=9223372036854775807
theorem bE1(n:Int):yr (aa .i64 n):=by grind[aa,BC,yr]
theorem be4(hP:P.length<=1048576):∃v,bm P=M v/\yr v:=by
 unfold bm;rcases Rw (s:=iq P) (λx=>yr x.1/\0<=x.2/\x.2<=a00 P) (λx=>(a00 P-x.2).toNat) (λb=>yr b) (λ_=>False) (by
  rintro⟨a,i⟩ ⟨d,h2,f⟩;dsimp only at d h2 f;unfold iq;dsimp only;by_cases hi:i<a00 P
  .rw[J hi,mn h2 hi,b?];refine .inl ?_;split
   .exact⟨_,rfl,⟨bE1 _,by dsimp only;rw[m? U U];omega⟩,by dsimp only;rw[m? U U];omega⟩
   .split
    .exact⟨_,rfl,⟨bE1 _,by dsimp only;rw[m? U U];omega⟩,by dsimp only;rw[m? U U];omega⟩
    .exact⟨_,rfl,⟨d,by dsimp only;rw[m? U U];omega⟩,by dsimp only;rw[m? U U];omega⟩
  .rw[s7 hi];exact .inr (.inl ⟨_,rfl,d⟩)) (x:=(0,0)) ⟨by simp[yr],p6,p6⟩with⟨b,e,c⟩|⟨b,-,c⟩
 .exact⟨b,by rw[e];rfl,c⟩
 .exact c.elim
theorem CD{m:Int}(k:Oz h m) (due:Int) (hP:P.length<=1048576):∃n:se,Xd h m due P=M (n,0)/\n.Id=h*4096+m/\n.j=h/\n.d=m/\(1<=n.a/\n.a<=4)/\yr n.ae:=by
 unfold Xd;rw[aA1 k,b?,s7 p6];rcases Rw (s:=zj P) (λx=>0<=x.2.2.2/\x.2.2.2<=a00 P) (λx=>(a00 P-x.2.2.2).toNat) (λ_=>True) (λ_=>False) (by
  rintro⟨a,b,s,i⟩ ⟨h2,f⟩;dsimp only at h2 f;unfold zj;dsimp only;by_cases hi:i<a00 P
  .rw[J hi,mn h2 hi,b?];refine .inl ?_;split
   .exact⟨_,rfl,by dsimp only;rw[m? U U];omega,by dsimp only;rw[m? U U];omega⟩
   .split
    .exact⟨_,rfl,by dsimp only;rw[m? U U];omega,by dsimp only;rw[m? U U];omega⟩
    .exact⟨_,rfl,by dsimp only;rw[m? U U];omega,by dsimp only;rw[m? U U];omega⟩
  .rw[s7 hi];exact .inr (.inl ⟨_,rfl,trivial⟩)) (x:=(a30,a30,0,0)) ⟨p6,p6⟩with⟨⟨b1,d,b3⟩,e,-⟩|⟨b,-,d⟩
 .rw[e,b?];dsimp only;obtain⟨v,g,c⟩:=be4 hP;rw[g,b?];split
  .exact⟨_,rfl,rfl,rfl,rfl,p6,c⟩
  .split
   .exact⟨_,rfl,rfl,rfl,rfl,p6,c⟩
   .split
    .exact⟨_,rfl,rfl,rfl,rfl,p6,c⟩
    .exact⟨_,rfl,rfl,rfl,rfl,p6,c⟩
 .exact d.elim
def iP(d m:Int):wt:=wt.mk 2 d m 0 0 0 0 0 (ka.mk 0 0 0 (bz.mk 0 0 0) (js.mk 0 0) 0)
structure bc6 (p:cb):Prop where
 d:yr p.g
 m:yr p.d
 k:yr p.a
 c:yr p.ae
structure aG9 (l:ej) (c:kv) (t:ic) (m d:Int) (Q:List cb):Prop where
 ok:q! l c t
 d0:0<=d/\d<=109572/\t.g<=d
 m0:Xq c m/\t.ag<=m
 ap:xe l c t (iP d m)=M (fU t d t.j.ab (t.u++Q) t.af m,0)
 ok':q! l c (fU t d t.j.ab (t.u++Q) t.af m)
 ps:∀q∈Q,bc6 q
 len:Q.length<=240
 dt:∃p,Fh m c.am c.bb=M (p,0)/\d=max p t.g
 q:∃lim S,xf (PA (Zv m d (Ls l c t m d))) c=M lim/\Q=Ct c m d S lim (Ls l c t m d)
section
variable {l:ej} {c:kv} {t:ic}
theorem bi8(hl:p? l) (hf:M! l) (hc:c.am.al.length<=1048576) (hh:t.j.ab.length<=64) (h2:t.u.length<=1048576) (s:t.af.length<=1048576) (m:Int) :
 ∃r,Cq l c t m=M r/\((r.2.2=a30)\/(r.2.2=a29/\aG9 l c t m r.1 r.2.1)):=by
 unfold Cq;obtain⟨p,v,x⟩:=TZ hc m c.bb;rw[v,b?];by_cases f:p.2=0
 case neg=>exact⟨_,by rw[J f],.inl rfl⟩
 have hp:=x f;rw[s7 (E!.2 f)];obtain⟨r,o,y⟩:=aA5 (e:=iP (max p.1 t.g) m) hl hf hc (t:=t) hh h2 s;rw[show xe l c t (wt.mk 2 (max p.1 t.g) m 0 0 0 0 0 (ka.mk 0 0 0 (bz.mk 0 0 0) (js.mk 0 0) 0))=M r from o,b?];rcases y with⟨b,g1⟩|⟨b,a,hd,F,P,A,k,g1,g2,g3⟩
 .rw[s7 b,b?];exact⟨_,by rw[J rfl],.inl rfl⟩
 .obtain⟨j,n⟩:=r;dsimp only at b g1 g3;subst b
  cases g2 with
  |fact hk=>simp[iP]at hk
  |appeal hk=>simp[iP]at hk
  |D1 hk=>simp[iP]at hk
  |repay hk=>simp[iP]at hk
  |waive hk=>simp[iP]at hk
  |pay hk lim S hm hS hlim=>
   have ed:(iP (max p.1 t.g) m).g=max p.1 t.g:=rfl;have em:(iP (max p.1 t.g) m).d=m:=rfl;simp only[ed,em]at g1 hm hlim hd;obtain⟨D,u⟩:∃D,D=max p.1 t.g:=⟨_,rfl⟩;rw[←u]at g1 hd o hlim⊢;obtain⟨Q,hQ⟩:∃Q,Q=Ct c m D S lim (Ls l c t m D):=⟨_,rfl⟩;rw[←hQ]at g1;have hp4:=g3.led.1;have e1:j.u=t.u++Q:=by rw[g1];rfl
   obtain⟨f1,f2⟩:=Wz a.cf;obtain⟨m1,m2,m3⟩:=hm.1.rng f1;have w:=rQ hl hf hh hc a (to:=m) (rec:=D) f1.1 m2 m3;have g:Q.length<=240:=by
    have h1:=BE (to:=m) (d:=D) (l:=Ls l c t m D);have h2:=Ux (kind:=2) (d:=D) (om:=λm=>D1 (m∈S)) (l:=Ls l c t m D) (rem:=lim);have s:=w.len;rw[hQ,Ct,G!];omega
   have h:∀q∈Q,bc6 q:=λq hq=>by
    obtain⟨i,hi,rfl⟩:=O' (l:=j.u) (by rw[e1];exact List.mem_append_right _ hq:q∈j.u);obtain⟨z,-,-⟩:=g3.led.2 i hi;unfold rk at z;exact⟨by unfold yr;omega,by unfold yr;omega,by unfold yr;omega,by unfold yr;omega⟩
   rw[J rfl,b?,e1,s7 (by rw[G!];simp;omega),wZ (by rw[G!];omega),List.drop_left' rfl,b?,Lf aaS,b?,G?];exact⟨_,rfl,.inr ⟨rfl,a,U,hm,by rw[o,g1],by rw[←g1];exact g3,h,g,⟨p.1,v.trans (congrArg M (Prod.ext rfl f)),u⟩,⟨lim,S,hlim.1,hQ⟩⟩⟩
end
def E7(l:List ot):Prop:=∀b∈l,0<=b.N/\b.N<256
theorem aG6(l:List (BitVec 8)):E7 (bI l):=by
 intro b hb;obtain⟨x,-,rfl⟩:=V!.1 hb;have:=x.isLt;dsimp only;omega
theorem bJI(l:List (BitVec 8)):bJ (bI l)=l:=by
 unfold bJ bI;rw[Cah]
 conv=>rhs;rw[←Eai l]
 refine cag λx _=>?_;simp[Function.comp]
theorem o9(a b:List (BitVec 8)):bI (a++b)=bI a++bI b:=ψ
def ay0(n:Nat) (a:List (BitVec 8)):bI (a.take n)=(bI a).take n:=List.map_take
def p9(a:List (BitVec 8)):(bI a).length=a00 a:=Kaf ..
theorem ao0(r:ma):cP (Rp r)=r:=by
 obtain⟨a,b,c,⟨d,e,f,g,h⟩,ps⟩:=r;simp only[cP,Rp,Cah];congr 1
 conv=>rhs;rw[←Eai ps]
 exact cag λp _=>rfl
theorem wS(l:List ma):(l.map Rp).map cP=l:=by
 rw[Cah]
 conv=>rhs;rw[←Eai l]
 exact cag λp _=>ao0 p
def Lx(r:ma):Prop:=(Rp r).Ok/\r.u.length<=4096
def Sd(l:List ma):List ot:=l.flatMap z!
theorem gA(r:ma):(z! r).length=80+32*a00 r.u:=by
 unfold z!;rw[p9,mg,Rp,Kaf]
theorem EH(l:List ma):Sd l=bI (Me (l.map Rp)):=by
 induction l with
 |nil=>rfl
 |cons r l a=>
  rw[Sd,Nag,←Sd,a,w?,show Me (Rp r::l.map Rp)=xm (Rp r)++Me (l.map Rp)from rfl,o9];rfl
def ZQ(a b:List ma):Sd (a++b)=Sd a++Sd b:=List.flatMap_append
theorem Aaa(r:ma):Sd [r]=z! r:=by simp[Sd]
theorem OP{r:R!}(hr:r.Ok/\r.ps.length<=4096) {n:Nat}(hn:n<80+32*a00 r.ps):∀{l:List R!},(∀r∈l,r.Ok/\r.ps.length<=4096)->Qq (Me l++(xm r).take n) l (Me l).length
 |[],_=>by
  have h:=ZL (l:=[r]) (n:=n) (by simpa using hr);have e:Me [r]=xm r:=by simp[Me]
  rw[e,UK,s7]at h;simpa [Me] using h
 |q::l,h=>by
  obtain⟨b,h2⟩:=h q p6;have hl:Me (q::l)++(xm r).take n=xm q++(Me l++(xm r).take n):=by rw[Me,Nag,←Me,H!]
  have a:(Me (q::l)).length=80+32*a00 q.ps+(Me l).length:=by
   rw[show Me (q::l)=xm q++Me l from rfl,G!,mg]
  obtain⟨g1,g2⟩:=pB q b h2 (Me l++(xm r).take n);rw[hl];refine⟨a00 q.ps,g1,g2.symm,U,?_⟩;rw[←mg q,List.drop_left,a,mg,Pag];exact OP hr hn λx hx=>h x (by simp[hx])
theorem sO{t:List ot}{l:List R!}{n:Nat}(h:Qq (bJ t) l n):Q1 t=(l.map cP,(n:Int)):=by
 unfold Q1;have hx:∃p:List R!×Nat,Qq (bJ t) p.1 p.2:=⟨(l,n),h⟩;rw[dif_pos hx];obtain⟨e1,e2⟩:=Qq.uniq hx.choose_spec h;rw[e1,e2]
theorem nZ{l:List ma}(h:∀r∈l,Lx r):∀r∈l.map Rp,r.Ok/\r.ps.length<=4096:=by
 intro r hr;obtain⟨q,hq,rfl⟩:=V!.1 hr;exact⟨(h q hq).1,by simpa [Rp] using(h q hq).2⟩
theorem FX(l:List ma):E7 (Sd l):=by rw[EH];exact aG6 _
def av6(r:ma):E7 (z! r):=aG6 _
theorem E7.app{a b:List ot}(c:E7 a) (h2:E7 b):E7 (a++b):=λx hx=>(List.mem_append.1 hx).elim (c x) (h2 x)
def E7.take{a:List ot}(h:E7 a) (n:Nat):E7 (a.take n):=λx hx=>h x (Xaf hx)
theorem aR(l:List ma):(Sd l).length=(Me (l.map Rp)).length:=by rw[EH,p9]
theorem aw6{l:List ma}(h:∀r∈l,Lx r) {r:ma}(hr:Lx r) {n:Nat}(hn:n<(z! r).length) (hs:(Sd l).length+n<1099511627776):Za (Sd l++(z! r).take n)=M (l,((Sd l).length:Int)):=by
 unfold Za;rw[J ⟨by rw[G!,U'];omega,(FX l).app ((av6 r).take n)⟩];rw[gA]at hn;have:=OP (r:=Rp r) ⟨hr.1,by simpa [Rp] using hr.2⟩ (n:=n) (by simpa [Rp] using hn) (nZ h);rw[sO (l:=l.map Rp) (n:=(Me (l.map Rp)).length) (by rw[EH,z!,←ay0,←o9,bJI];exact this),wS,aR]
theorem xX{l:List ma}(h:∀r∈l,Lx r) (a:(Sd l).length<1099511627776):Za (Sd l)=M (l,((Sd l).length:Int)):=by
 unfold Za;rw[J ⟨a,FX l⟩];rw[sO (l:=l.map Rp) (n:=(Me (l.map Rp)).length) (by rw[EH,bJI];exact QP (nZ h)),wS,aR]
theorem y8:∀(k:Nat) (bs:List (BitVec 8)),a00 bs<=k->∃l n,Qq bs l n
 |k,bs,hk=>by
  by_cases a:∃j,C' bs j
  .obtain⟨j,hj⟩:=a;have hl:=hj.len
   match k with
   |0=>omega
   |k+1=>
    obtain⟨l,n,h⟩:=y8 k (bs.drop (80+32*j)) (by rw[List.length_drop];omega);exact⟨oo (bs.drop 4) j::l,80+32*j+n,j,hj,rfl,U,by rw[Pag];exact h⟩
  .exact⟨[],0,rfl,λj hj=>a ⟨j,hj⟩⟩
theorem aw7{t:List ot}(h:E7 t) (c:t.length<1099511627776):∃l n,Za t=M (l,((n:Nat):Int))/\n<=a00 t/\80*a00 l<=n/\∀r∈l,a00 r.u<=4096:=by
 obtain⟨l,n,hd⟩:=y8 _ (bJ t) (A' _);obtain⟨a,h2,b⟩:=hd.le;refine⟨l.map cP,n,?_,by simpa [bJ] using a,by simpa using h2,?_⟩
 .unfold Za;rw[J ⟨c,h⟩,sO hd]
 .intro r hr;obtain⟨q,hq,rfl⟩:=V!.1 hr;simpa [cP] using b q hq
structure bN1 (l:ej) (c:kv) (t:ic) (m:Int) (r:ma):Prop where
 hh:r.j=t.j.Id
 mo:r.d=m
 n:r.aq.Id=t.j.Id*4096+m/\r.aq.j=t.j.Id/\r.aq.d=m
 ok:Lx r
 len:r.u.length<=240
 p:(r.g = -1/\r.u=[]/\∃p,Cq l c t m=M p/\p.2.2=a30)\/aG9 l c t m r.g r.u
variable {c:ve}{m:Int}{t:List ot}{l:List ma}{r:ma}
section
variable {l:ej} {c:kv} {t:ic} {m:Int}
theorem JS(c:Oz r.j r.d) (h2:yr r.g) (d:r.aq.Id=r.j*4096+r.d/\r.aq.j=r.j/\r.aq.d=r.d) (h4:1<=r.aq.a/\r.aq.a<=4) (e:yr r.aq.ae) (f:∀q∈r.u,bc6 q) (g:r.u.length<=4096):Lx r:=by
 obtain⟨⟨a1,a2⟩,a3,a4⟩:=c;obtain⟨b1,b2,b3⟩:=d;have a:∀p∈(Rp r).ps,p.Ok:=λp a=>by
  obtain⟨q,hq,rfl⟩:=V!.1 a;obtain⟨c1,c2,c3,b⟩:=f q hq;exact⟨c1,c2,c3,b⟩
 have hl:(Rp r).ps.length<2 ^ 63:=by simp only[Rp,Kaf];omega
 constructor
 .constructor<;>first|exact a|exact hl|exact h2|exact e|(unfold su;dsimp only[Rp];omega)
 .exact g
theorem M8(hl:p? l) (hf:M! l) (hc:c.am.al.length<=1048576) (hh:t.j.ab.length<=64) (h2:t.u.length<=1048576) (o:t.af.length<=1048576) (hi:Oz t.j.Id m) :
 ∃r,Fe l c t m=M (r,0)/\bN1 l c t m r:=by
 unfold Fe;rw[aA1 hi,b?,s7 p6];obtain⟨p,u,v⟩:=bi8 hl hf hc hh h2 o m;rw[u,b?];rcases v with g|⟨g,a⟩
 .rw[s7 (by rw[g];simp),b?];dsimp only;obtain⟨n,i,b,e,f,j,k⟩:=CD hi 0 (P:=[]) p6;rw[i,b?,s7 p6];refine⟨_,rfl,rfl,rfl,⟨b,e,f⟩,?_,p6,.inl ⟨rfl,rfl,p,u,g⟩⟩;exact JS hi (by simp[yr]) ⟨b,e,f⟩ j k p6 p6
 .rw[J g];obtain⟨d1,h⟩:∃d,Fl l c t m p.1=M d:=by
   unfold Fl;obtain⟨f1,f2⟩:=Wz a.ok.cf;obtain⟨m1,m2,m3⟩:=a.m0.1.rng f1;rw[Is hl hf hh hc h2 o f1.1 m3 p.1,b?];obtain⟨B,q⟩:∃B,B=(if m<c.aj\/3599<m then []else Ls l c t m p.1):=⟨_,rfl⟩;rw[←q];have hlen:B.length<=4096:=by
    rw[q];split
    .simp
    .unfold Ls;simp only[Kaf,List.length_range];omega
   by_cases s:(a00 B:Int)=0
   .exact⟨_,J s⟩
   .rw[s7 s,m? U U,mn U U];exact⟨_,rfl⟩
  rw[h,b?,b?];dsimp only;obtain⟨n,i,b,e,f,j,k⟩:=CD hi d1 (P:=p.2.1) (by have:=a.len;omega);rw[i,b?,s7 p6];refine⟨_,rfl,rfl,rfl,⟨b,e,f⟩,?_,a.len,.inr a⟩;have:=a.d0;exact JS hi (by dsimp only;unfold yr;omega) ⟨b,e,f⟩ j k a.ps (by have:=a.len;dsimp only;omega)
theorem UZ(hi:¬Oz t.j.Id m):∃r,Fe l c t m=M (r,3):=by
 unfold Fe;rw[bN6 hi,b?,J p6];exact⟨_,rfl⟩
def eG(l:ej) (c:kv) (m:Int) (t:ic):ma:=((Fe l c t m).getD ((ma.mk 0 0 0 (se.mk 0 0 0 0 0) []),0)).1
theorem kP(hl:p? l) (hf:M! l) (hc:c.am.al.length<=1048576) (hh:t.j.ab.length<=64) (h2:t.u.length<=1048576) (b:t.af.length<=1048576) (hi:Oz t.j.Id m) :
 Fe l c t m=M (eG l c m t,0)/\bN1 l c t m (eG l c m t):=by
 obtain⟨r,a,d⟩:=M8 hl hf hc hh h2 b hi;have:eG l c m t=r:=by unfold eG;rw[a];rfl
 rw[this];exact⟨a,d⟩
theorem DM(hl:p? l) (hf:M! l) (hc:c.am.al.length<=1048576) (hh:t.j.ab.length<=64) (h2:t.u.length<=1048576) (a:t.af.length<=1048576) (hi:Oz t.j.Id m) :
 Oj l c t m=M (z! (eG l c m t),0):=by
 obtain⟨b,d⟩:=kP hl hf hc hh h2 a hi;unfold Oj Zn;rw[b,b?,s7 p6];have:=d.len;dsimp only;rw[J,b?]
theorem oV(hi:¬Oz t.j.Id m):∃b,Oj l c t m=M (b,3):=by
 obtain⟨r,hr⟩:=UZ (l:=l) (c:=c) hi;unfold Oj;rw[hr,b?,J p6];exact⟨_,rfl⟩
end
def yD(t:ic):Prop:=a00 t.j.ab<=64/\t.u.length<=1048576/\t.af.length<=1048576
instance (h m:Int):Decidable (Oz h m):=by unfold Oz;infer_instance
def Yr(l:ej) (c:kv) (m:Int):List ic->List Int->List ma
 |[],_=>[]
 |a::A,S=>if Oz a.j.Id m/\a.j.Id∉S then eG l c m a::Yr l c m A (a.j.Id::S)else Yr l c m A S
def Ki:List ma->Int->List ot×Bool
 |[],_=>([],a29)
 |r::R,q=>if q<(z! r).length then((z! r).take q.toNat,a30)else(z! r++(Ki R (q-(z! r).length)).1,(Ki R (q-(z! r).length)).2)
theorem bl2{k:Int}{l:List (Int×Bool)}{q:Int}:(Uq (ZC k a29 l) q).getD a30=a29↔q=k\/(Uq l q).getD a30=a29:=by
 rw[yA];split<;>simp_all
section
variable {l:ej} {c:kv} {m:Int} {A:List ic}
theorem av5(hl:p? l) (hf:M! l) (hc:c.am.al.length<=1048576) {a:ic}(ha:yD a) (hi:Oz a.j.Id m):(z! (eG l c m a)).length<=7760:=by
 have:=(kP hl hf hc ha.1 ha.2.1 ha.2.2 hi).2.len;rw[gA];omega
theorem sU(hl:p? l) (hf:M! l) (hc:c.am.al.length<=1048576) (hA:∀a∈A,yD a) (g:A.length<=1048576):∀(k i:Nat) (out:List ot) (mp:List (Int×Bool)) (left:Int) (S:List Int) (q:Nat),i+k=a00 A->
 (∀x,(Uq mp x).getD a30=a29↔x∈S\/x∈((Yr l c m (A.drop i) S).take q).map (·.j))->0<=left->left<9223372036854775808->out.length+8000*k<=1099511627776->
 ja (tg l c A m) (out,mp,left,(i:Int))=M (if(Ki ((Yr l c m (A.drop i) S).drop q) left).2=a29 then .inl (out++(Ki ((Yr l c m (A.drop i) S).drop q) left).1)else .inr (out++(Ki ((Yr l c m (A.drop i) S).drop q) left).1,a30))
 |0,i,out,mp,left,S,q,h,hm,r,s,h2=>by
  rw[List.drop_of_length_le (by omega:A.length<=i),Yr,List.drop_nil,Ki,J rfl,R?];refine Gb ?_;unfold tg;dsimp only;rw[s7]
 |k+1,i,out,mp,left,S,q,h,hm,r,s,h2=>by
  have hi:i<a00 A:=U
  have hd:A.drop i=A[i]::A.drop (i+1):=List.drop_eq_getElem_cons hi;obtain⟨a,ha⟩:∃a,a=A[i]:=⟨_,rfl⟩;have f:=hA a (by rw[ha];exact E' hi);rw[hd,←ha]at hm⊢;have skip:∀(S':List Int) (o:Nat),(∀x,(Uq mp x).getD a30=a29↔x∈S'\/x∈((Yr l c m (A.drop (i+1)) S').take o).map (·.j))->(Yr l c m (a::A.drop (i+1)) S).drop q=(Yr l c m (A.drop (i+1)) S').drop o->
   ((Uq mp a.j.Id).getD a30=a29\/¬Oz a.j.Id m)->
   ja (tg l c A m) (out,mp,left,(i:Int))=M (if(Ki ((Yr l c m (a::A.drop (i+1)) S).drop q) left).2=a29 then .inl (out++(Ki ((Yr l c m (a::A.drop (i+1)) S).drop q) left).1)else .inr (out++(Ki ((Yr l c m (a::A.drop (i+1)) S).drop q) left).1,a30)):=by
   intro S' o p he u;rw[he,←sU hl hf hc hA g k (i+1) out mp left S' o U p r s U];refine Gc ?_;unfold tg;dsimp only;rw[J,Ma hi,b?,←ha];by_cases hb:(Uq mp a.j.Id).getD a30=a29
   .rw[J hb,b?];dsimp only;rw[Ha U]
   .rw[s7 hb];obtain⟨b,e⟩:=oV (l:=l) (c:=c) (u.resolve_left hb);rw[e,b?,J p6,b?];dsimp only;rw[Ha U]
  by_cases hx:Oz a.j.Id m/\a.j.Id∉S
  .have d:Yr l c m (a::A.drop (i+1)) S=eG l c m a::Yr l c m (A.drop (i+1)) (a.j.Id::S):=J hx;have hr:=(kP hl hf hc f.1 f.2.1 f.2.2 hx.1).2
   cases q with
   |succ q=>
    refine skip (a.j.Id::S) q (λx=>?_) (by rw[d,List.drop_succ_cons]) (.inl ((hm _).2 (.inr ?_)))
    .rw[hm,d,Χ,w?,hr.hh];simp only[X'];constructor
     .rintro(h|h|h)
      .exact .inl (.inr h)
      .exact .inl (.inl h)
      .exact .inr h
     .rintro((h|h)|h)
      .exact .inr (.inl h)
      .exact .inl h
      .exact .inr (.inr h)
    .rw[d,Χ,w?,hr.hh];simp
   |zero=>
    rw[Bag,D!]at hm;have hb:¬(Uq mp a.j.Id).getD a30=a29:=λh=>by
     rcases(hm _).1 h with h|h
     .exact hx.2 h
     .simp at h
    have hen:=av5 (m:=m) hl hf hc f hx.1;rw[d,Eag,Ki];by_cases hq:left<(z! (eG l c m a)).length
    .rw[J hq];dsimp only;rw[s7 p6];refine ep ?_;unfold tg;dsimp only;obtain⟨n,rfl⟩:∃n:Nat,left=n:=⟨left.toNat,U⟩;rw[J,Ma hi,b?,←ha,s7 hb,DM hl hf hc f.1 f.2.1 f.2.2 hx.1,b?];dsimp only;rw[s7 p6,J hq,ax U,b?,Lf (by rw[U'];omega),b?,b?];rfl
    .rw[s7 hq];dsimp only;have t:=sU hl hf hc hA g k (i+1) (out++z! (eG l c m a)) (ZC a.j.Id a29 mp) (left-(z! (eG l c m a)).length) (a.j.Id::S) 0 U (λx=>by
      rw[bl2,hm,Bag,D!];simp only[X',List.not_mem_nil,or_false]) U U (by rw[G!];omega)
     rw[Eag,H!]at t;rw[←t];refine Gc ?_;unfold tg;dsimp only;rw[J,Ma hi,b?,←ha,s7 hb,DM hl hf hc f.1 f.2.1 f.2.2 hx.1,b?];dsimp only;rw[s7 p6,s7 hq,Lf U,b?,b?];dsimp only;rw[m? U U,Ha U]
  .have d:Yr l c m (a::A.drop (i+1)) S=Yr l c m (A.drop (i+1)) S:=s7 hx;refine skip S q (λx=>by rw[hm,d]) (by rw[d]) ?_;by_cases j:Oz a.j.Id m
   .exact .inl ((hm _).2 (.inl (E!.1 λh=>hx ⟨j,h⟩)))
   .exact .inr j
theorem bc7{m:Int}{x:List ma×Int}(hx:x.1.length<=1099511627776):∃mp,ja (Bp m x) ([],0)=M (.inl mp)/\∀q,(Uq mp q).getD a30=a29↔∃r∈x.1,r.d=m/\r.j=q:=by
 obtain⟨f,hf⟩:∃f:Nat->List (Int×Bool),f=λi=>(x.1.take i).foldl (λmp r=>if r.d=m then ZC r.j a29 mp else mp) []:=⟨_,rfl⟩;refine⟨f x.1.length,lf (λi=>(f i,(i:Int))) x.1.length _ (λi hi=>?_) ?_ (by rw[hf];rfl),?_⟩
 .have d:f (i+1)=if(x.1[i]).d=m then ZC (x.1[i]).j a29 (f i)else f i:=by
   rw[hf];dsimp only;rw[←oah hi,List.foldl_append];rfl
  unfold Bp;dsimp only;rw[J,Ma hi,b?,d];split<;>rw[b?,Ha U]
 .unfold Bp;dsimp only;rw[s7]
 .have key:∀(L:List ma) (mp:List (Int×Bool)) (q:Int),(Uq (L.foldl (λmp r=>if r.d=m then ZC r.j a29 mp else mp) mp) q).getD a30=a29↔(∃r∈L,r.d=m/\r.j=q)\/(Uq mp q).getD a30=a29:=by
   intro L
   induction L with
   |nil=>intro mp q;simp
   |cons r L e=>
    intro mp q;rw[List.foldl_cons,e];by_cases hr:r.d=m
    .rw[J hr,bl2];constructor
     .rintro(⟨y,a,b⟩|h|h)
      .exact .inl ⟨y,by simp[a],b⟩
      .exact .inl ⟨r,p6,hr,h.symm⟩
      .exact .inr h
     .rintro(⟨y,a,b,c⟩|h)
      .rcases X'.1 a with rfl|a
       .exact .inr (.inl c.symm)
       .exact .inl ⟨y,a,b,c⟩
      .exact .inr (.inr h)
    .rw[s7 hr];constructor
     .rintro(⟨y,a,b⟩|h)
      .exact .inl ⟨y,by simp[a],b⟩
      .exact .inr h
     .rintro(⟨y,a,b,c⟩|h)
      .rcases X'.1 a with rfl|a
       .exact absurd b hr
       .exact .inl ⟨y,a,b,c⟩
      .exact .inr h
  intro q;rw[hf];dsimp only;rw[υ,key];simp[Uq]
def cy(l:ej) (c:kv) (m:Int) (A:List ic):List ma:=Yr l c m A []
theorem fJ(hl:p? l) (hf:M! l) (hc:c.am.al.length<=1048576):∀{A:List ic}{S:List Int},(∀a∈A,yD a)->∀r∈Yr l c m A S,Lx r/\r.d=m/\r.u.length<=240
 |[],S,_,r,h=>by simp[Yr]at h
 |a::A,S,hA,r,h=>by
  unfold Yr at h;split at h
  .rename_i hx;rcases X'.1 h with rfl|h
   .have b:=hA a p6;have:=(kP hl hf hc b.1 b.2.1 b.2.2 hx.1).2;exact⟨this.ok,this.mo,this.len⟩
   .exact fJ hl hf hc (λx hx=>hA x (by simp[hx])) r h
  .exact fJ hl hf hc (λx hx=>hA x (by simp[hx])) r h
theorem DH:∀{A:List ic}{S:List Int},(Yr l c m A S).length<=a00 A
 |[],_=>by simp[Yr]
 |a::A,S=>by
  unfold Yr;split
  .have:=DH (A:=A) (S:=a.j.Id::S);simp only[w!];omega
  .have:=DH (A:=A) (S:=S);simp only[w!];omega
theorem HO:∀{R:List ma},(∀r∈R,a00 r.u<=240)->(Sd R).length<=7760*a00 R
 |[],_=>by simp[Sd]
 |r::R,h=>by
  have ih:=HO (R:=R) λx hx=>h x (by simp[hx]);have:=h r p6;rw[show Sd (r::R)=z! r++Sd R from rfl,G!,gA,w!];omega
theorem T8(hl:p? l) (hf:M! l) (hc:c.am.al.length<=1048576) (hA:∀a∈A,yD a) (f:A.length<=1048576) {j:List ot}{q:Nat}(hj:Za j=M ((cy l c m A).take q,((Sd ((cy l c m A).take q)).length:Int))) (i:j.take (Sd ((cy l c m A).take q)).length=Sd ((cy l c m A).take q)) (hq:(Sd ((cy l c m A).take q)).length<=a00 j) (hb:b<9223372036854775808) :
 kg l c A m j b=M (Sd ((cy l c m A).take q)++(Ki ((cy l c m A).drop q) (max b 0)).1,(Ki ((cy l c m A).drop q) (max b 0)).2):=by
 have d:=fJ (m:=m) (S:=[]) hl hf hc hA;have hle:((cy l c m A).take q).length<=a00 A:=by
  have:=DH (l:=l) (c:=c) (m:=m) (A:=A) (S:=[]);rw[U'];unfold cy;omega
 have hsm:=HO (R:=(cy l c m A).take q) λr hr=>(d r (Xaf hr)).2.2;unfold kg cj;rw[hj,b?,b?];dsimp only;rw[ax hq,b?,i,Lf aaS,b?,G?];obtain⟨mp,m1,m2⟩:=bc7 (m:=m) (x:=((cy l c m A).take q,((Sd ((cy l c m A).take q)).length:Int))) (by dsimp only;omega);rw[m1,b?];dsimp only;have:=sU (m:=m) hl hf hc hA f A.length 0 (Sd ((cy l c m A).take q)) mp (max b 0) [] q U (λx=>by
  rw[m2,Eag];dsimp only;constructor
  .rintro⟨r,e,-,g⟩;exact .inr (V!.2 ⟨r,e,g⟩)
  .rintro(h|h)
   .simp at h
   .obtain⟨r,e,g⟩:=V!.1 h;exact⟨r,e,(d r (Xaf e)).2.1,g⟩) U U U
 rw[Eag]at this;rw[show ja (tg l c A m) (Sd ((cy l c m A).take q),mp,max b 0,0)=_ from this];unfold cy;cases k:(Ki ((Yr l c m A []).drop q) (max b 0)).2<;>simp[k]
end
theorem az:∀{R:List ma}{q:Int},((Sd R).length:Int)<=q->Ki R q=(Sd R,a29)
 |[],q,_=>rfl
 |r::R,q,h=>by
  have e:Sd (r::R)=z! r++Sd R:=rfl;rw[e,G!]at h;rw[Ki,s7,az (R:=R) U,e]
theorem pD:∀{R:List ma}{q:Int},0<=q->((Ki R q).1.length:Int)<=q/\∃k,((Ki R q).1=Sd (R.take k)/\R.take k=R/\(Ki R q).2=a29)\/∃r∈R,∃n,n<(z! r).length/\(Ki R q).1=Sd (R.take k)++(z! r).take n
 |[],q,h=>⟨by simp[Ki];omega,0,.inl ⟨rfl,rfl,rfl⟩⟩
 |r::R,q,h=>by
  rw[Ki];by_cases hq:q<(z! r).length
  .rw[J hq];dsimp only;exact⟨by rw[U'];omega,0,.inr ⟨r,p6,q.toNat,U,rfl⟩⟩
  .rw[s7 hq];dsimp only;obtain⟨h1,k,h2⟩:=pD (R:=R) (q:=q-(z! r).length) U;refine⟨by rw[G!];omega,k+1,?_⟩;have e:∀L,Sd (r::L)=z! r++Sd L:=λL=>rfl;rcases h2 with⟨g1,g2,g3⟩|⟨x,c,n,a,b⟩
   .exact .inl ⟨by rw[g1,Χ,e],by rw[Χ,g2],g3⟩
   .exact .inr ⟨x,by simp[c],n,a,by rw[b,Χ,e,H!]⟩
structure φ (E:List ma) (j:List ot) (q:Nat):Prop where
 d:Za j=M (E.take q,((Sd (E.take q)).length:Int))
 t:j.take (Sd (E.take q)).length=Sd (E.take q)
 l:(Sd (E.take q)).length<=a00 j
variable {j:List ot}{E:List ma}
theorem φ.of(a:∀r∈E,Lx r) (hr:r∈E) {n:Nat}(hn:n<(z! r).length) (b:(Sd (E.take k)).length+n<1099511627776):φ E (Sd (E.take k)++(z! r).take n) k:=
 ⟨aw6 (λx hx=>a x (Xaf hx)) (a r hr) hn b,List.take_left' rfl,by rw[G!];omega⟩
def φ.all(a:∀r∈E,Lx r) (b:(Sd (E.take k)).length<1099511627776):φ E (Sd (E.take k)) k:=
 ⟨xX (λx hx=>a x (Xaf hx)) b,υ,A' _⟩
theorem φ.nil(a:∀r∈E,Lx r):φ E [] 0:=φ.all a (k:=0) (by simp[Sd])
theorem FH(E:List ma) (q:Nat):Sd (E.take q)++Sd (E.drop q)=Sd E:=by rw[←ZQ,List.take_append_drop]
theorem GX(E:List ma) (q k:Nat):Sd (E.take q)++Sd ((E.drop q).take k)=Sd (E.take (q+k)):=by rw[←ZQ,List.take_add]
theorem iJ(E:List ma) (k:Nat):(Sd (E.take k)).length<=(Sd E).length:=by rw[←FH E k,G!];omega
theorem φ.step(a:∀r∈E,Lx r/\r.u.length<=240) (hs:(Sd E).length<=1073741824) (q:Nat) (hb:0<=b):∃k,φ E (Sd (E.take q)++(Ki (E.drop q) b).1) k:=by
 obtain⟨-,k,h|⟨r,e,n,c,d⟩⟩:=pD (R:=E.drop q) hb
 .rw[h.1,GX];exact⟨q+k,φ.all (λr hr=>(a r hr).1) (by have:=iJ E (q+k);omega)⟩
 .rw[d,←H!,GX];have hm:=List.mem_of_mem_drop e;have hl:(z! r).length<=7760:=by rw[gA];have:=(a r hm).2;omega
  exact⟨q+k,φ.of (λr hr=>(a r hr).1) hm c (by have:=iJ E (q+k);omega)⟩
theorem uH{l:List ot}(hl:l.length<=1099511627776):Gt l l=M a29:=by
 unfold Gt;rw[s7 p6];have:ja (Up l l) 0=M (.inl ()):=by
  refine lf (λi=>(i:Int)) l.length _ (λi hi=>?_) ?_ rfl
  .unfold Up;rw[J,b?,D2 U,J (rfl:a29=a29),Ma hi,b?,b?,s7 p6,Ha U]
  .simp[Up]
 rw[this];rfl
theorem Had(t:ic):∃b,Gj t=M b/\(b=a29->t.j.ab.length<=40/\t.u.length<=200/\t.af.length<=20):=by
 unfold Gj lk;by_cases hh:(a00 t.j.ab:Int)<=40
 case neg=>exact⟨a30,by simp[hh],λh=>by cases h⟩
 by_cases a:(a00 t.u:Int)<=200
 case neg=>exact⟨a30,by simp[hh,a],λh=>by cases h⟩
 by_cases ha:(a00 t.af:Int)<=20
 case neg=>exact⟨a30,by simp[hh,a,ha],λh=>by cases h⟩
 exact⟨a29,by simp[hh,a,ha],λ_=>⟨U,U,U⟩⟩
structure bb9 (x:b6):Prop where
 law:Θ x.aw
 cal:x.ax.am.al.length<=70
 len:x.as.length<=5
 acc:∀a∈x.as,a00 a.j.ab<=40/\a.u.length<=200/\a.af.length<=20
variable {x:List ma×Int}
theorem kY(x:b6):∃b,Iv x=M b/\(b=a29->bb9 x):=by
 unfold Iv;rcases Rw (s:=tv x) (λi=>∃n:Nat,i=n/\n<=8/\n<=a00 x.as/\∀j (h:j<a00 x.as),j<n->(x.as[j]).j.ab.length<=40/\(x.as[j]).u.length<=200/\(x.as[j]).af.length<=20) (λi=>(8-i).toNat)
  (λ_=>x.as.length<=8->∀a∈x.as,a00 a.j.ab<=40/\a.u.length<=200/\a.af.length<=20) (λb=>b=a30) (by
  rintro i ⟨n,rfl,h8,hn,h⟩;unfold tv;by_cases hi:n<a00 x.as
  .by_cases hi8:n<8
   .obtain⟨b,c,d⟩:=Had x.as[n];rw[J,b?,D2 U,J rfl,Ma hi,b?,c,b?]
    cases b with
    |false=>exact .inr (.inr ⟨_,rfl,rfl⟩)
    |true=>
     rw[s7 p6];refine .inl ⟨_,rfl,⟨n+1,Ha U,U,hi,λj hj hjn=>?_⟩,by rw[Ha U];omega⟩;by_cases e:j=n
     .subst e;exact d rfl
     .exact h j hj U
   .rw[J,b?,R1 U,s7 p6];refine .inr (.inl ⟨_,rfl,λf=>U⟩)
  .rw[s7,b?,s7 p6];refine .inr (.inl ⟨_,rfl,λ_ a ha=>?_⟩);obtain⟨j,hj,rfl⟩:=O' ha;exact h j hj U) (x:=0) ⟨0,rfl,U,U,λj hj h=>U⟩with⟨b,c,d⟩|⟨b,c,rfl⟩
 .rw[c,b?];by_cases f:(a00 x.as:Int)<=5
  .dsimp only;rw[J f];obtain⟨v,g,k⟩:=wH x.aw;rw[g,b?]
   cases v with
   |false=>exact⟨a30,rfl,λh=>by cases h⟩
   |true=>
    unfold np;by_cases hc:(a00 x.ax.am.al:Int)<=70
    .exact⟨a29,by simp[hc],λ_=>⟨k rfl,U,U,d U⟩⟩
    .exact⟨a30,by simp[hc],λh=>by cases h⟩
  .exact⟨a30,by simp[f],λh=>by cases h⟩
 .rw[c];exact⟨a30,rfl,λh=>by cases h⟩
theorem MP(w:Dh=M a29) {x:b6}(o4:bN3 x.aw) (F:cX x.aw) {B:List Int}(u:∀b∈B,b<9223372036854775808):Ng x B=M a29:=by
 unfold Ng;obtain⟨b,H,I⟩:=kY x;rw[H,b?,w,b?]
 cases b with
 |false=>rfl
 |true=>
  rw[J rfl,b?];by_cases G:(12:Int)<a00 B
  .rw[D2 G];rfl
  rw[R1 G,s7 p6];have hx:=I rfl;have o:=hx.law;have hf:M! x.aw:=⟨o.nt,o.ns,o.rows o4,λs D=>(o.s s D).rules⟩;have hl:=o.ok F;have hc:x.ax.am.al.length<=1048576:=by have:=hx.cal;omega
  have hA:∀a∈x.as,yD a:=λa ha=>by obtain⟨p,h2,h3⟩:=hx.acc a ha;exact⟨U,U,U⟩
  have hAl:=hx.len;obtain⟨E,v⟩:∃E,E=cy x.aw x.ax x.d x.as:=⟨_,rfl⟩;have e:∀r∈E,Lx r/\r.u.length<=240:=λr hr=>by
   have:=fJ (m:=x.d) (S:=[]) hl hf hc hA r (by rw[v]at hr;exact hr);exact⟨this.1,this.2.2⟩
  have hEl:E.length<=5:=by
   have:=DH (l:=x.aw) (c:=x.ax) (m:=x.d) (A:=x.as) (S:=[]);rw[v];unfold cy;omega
  have hEb:(Sd E).length<=38800:=by
   have:=HO (R:=E) λr hr=>(e r hr).2;omega
  have f:∀{j:List ot} {q:Nat},φ E j q->∀{b:Int},b<9223372036854775808->kg x.aw x.ax x.as x.d j b=M (Sd (E.take q)++(Ki (E.drop q) (max b 0)).1,(Ki (E.drop q) (max b 0)).2):=λhj b hb=>by
   subst v;exact T8 hl hf hc hA U hj.d hj.t hj.l hb
  have fin:∀{j:List ot} {q:Nat},φ E j q->kg x.aw x.ax x.as x.d j 1099511627776=M (Sd E,a29):=λ{j q} hj=>by
   have:=FH E q;have hl:(Sd (E.drop q)).length<=(Sd E).length:=by rw[←this,G!];omega
   rw[f hj U,az U,this]
  rw[fin (φ.nil λr hr=>(e r hr).1),b?];dsimp only;rcases Rw (s:=Vg x B) (λy=>(∃n:Nat,y.2=n/\n<=a00 B)/\∃q,φ E y.1 q) (λy=>(a00 B-y.2).toNat) (λj=>∃q,φ E j q) (λ_=>False) (by
   rintro⟨j,i⟩ ⟨⟨n,p,h2⟩,q,hq⟩;dsimp only at p hq;subst p;unfold Vg;dsimp only;by_cases hn:n<a00 B
   .have hb:=u B[n] (E' hn);have hm:0<=max B[n] 0:=U
    have hle:=iJ E q;obtain⟨k1,-⟩:=pD (R:=E.drop q) hm;have hjl:=hq.l;rw[J,Ma hn,b?,f hq hb,b?,hq.d,b?];dsimp only;have hsl:(Ki (E.drop q) (max B[n] 0)).1.length<=46560:=by
     by_cases z:((Sd (E.drop q)).length:Int)<=max B[n] 0
     .rw[az z];have:=FH E q;have C:(Sd (E.drop q)).length<=(Sd E).length:=by rw[←this,G!];omega
      dsimp only;omega
     .have C:(Sd (E.drop q)).length<=(Sd E).length:=by rw[←FH E q,G!];omega
      omega
    rw[G!,J,J,m? U U,J,b?,R1 U,s7 p6];obtain⟨k,hk⟩:=φ.step e U q hm;exact .inl ⟨_,rfl,⟨⟨n+1,by dsimp only;rw[Ha U],hn⟩,k,hk⟩,by dsimp only;rw[Ha U];omega⟩
   .rw[s7];exact .inr (.inl ⟨_,rfl,q,hq⟩)) (x:=([],0)) ⟨⟨0,rfl,U⟩,0,φ.nil λr hr=>(e r hr).1⟩with⟨j,K,q,hq⟩|⟨_,_,h⟩
  .rw[K,b?];dsimp only;have g:φ E (Sd E) E.length:=by
    have:=φ.all (E:=E) (λr hr=>(e r hr).1) (k:=a00 E) (by rw[υ];omega);rwa [υ]at this
   rw[fin hq,b?];dsimp only;rw[f g (b:=0) U,List.drop_length,υ,b?];simp only[Ki,R?];rw[uH U,b?];rfl
  .exact h.elim
def fR(m h:Int) (rs:List ma):Option ma:=rs.find? λr=>D1 (r.d=m/\r.j=h)
def apR(a:ic) (r:ma):ic:=⟨a.j,a.u++r.u,a.af,if 0<=r.g then r.g else a.g,if 0<=r.g then r.d else a.ag⟩
def Au(m:Int) (rs:List ma) (a:ic):ic:=match fR m a.j.Id rs with|some r=>apR a r|none=>a
theorem fY(hk:k<a00 rs) (a:(rs[k]).d=m/\(rs[k]).j=h) (h2:∀j (hj:j<k),¬((rs[j]' U).d=m/\(rs[j]' U).j=h)):fR m h rs=M rs[k]:=by
 unfold fR;rw[List.find?_eq_some_iff_getElem];exact⟨by simpa using a,k,hk,rfl,λj hj=>by rw[Bool.not_eq_true',decide_eq_false_iff_not];exact h2 j hj⟩
theorem eY(h2:∀j (hj:j<a00 rs),¬((rs[j]).d=m/\(rs[j]).j=h)):fR m h rs=u4:=by
 unfold fR;rw[List.find?_eq_none];intro x hx;obtain⟨j,hj,rfl⟩:=O' hx;simpa using h2 j hj
theorem Uaa(e:fR m h rs=M r):r∈rs/\r.d=m/\r.j=h:=by
 unfold fR at e;exact⟨List.mem_of_find?_eq_some e,by simpa using List.find?_some e⟩
theorem xV(hx:x.1.length<=1099511627776):∃mp,ja (tm m x) ([],0)=M (.inl mp)/\∀q,(∃k:Nat,Uq mp q=M (k:Int)/\∃h:k<a00 x.1,fR m q x.1=M x.1[k])\/(Uq mp q=u4/\fR m q x.1=u4):=by
 rcases Rw (s:=tm m x) (λy=>∃n:Nat,y.2=n/\n<=a00 x.1/\∀q,(∃k:Nat,Uq y.1 q=M (k:Int)/\∃h:k<a00 x.1,k<n/\((x.1[k]).d=m/\(x.1[k]).j=q)/\∀j (hj:j<k),¬((x.1[j]' U).d=m/\(x.1[j]' U).j=q))\/(Uq y.1 q=u4/\∀j (hj:j<a00 x.1),j<n->¬((x.1[j]).d=m/\(x.1[j]).j=q)))
  (λy=>(a00 x.1-y.2).toNat) (λmp=>∀q,(∃k:Nat,Uq mp q=M (k:Int)/\∃h:k<a00 x.1,fR m q x.1=M x.1[k])\/(Uq mp q=u4/\fR m q x.1=u4)) (λ_=>False) (by
  rintro⟨mp,i⟩ ⟨n,o,h2,d⟩;dsimp only at o d;subst o;unfold tm;dsimp only;by_cases hn:n<a00 x.1
  .rw[J,Ma hn,b?];have fin:∀c,(∀q,(∃k:Nat,Uq c q=M (k:Int)/\∃h:k<a00 x.1,k<n+1/\((x.1[k]).d=m/\(x.1[k]).j=q)/\∀j (hj:j<k),¬((x.1[j]' U).d=m/\(x.1[j]' U).j=q))\/(Uq c q=u4/\∀j (hj:j<a00 x.1),j<n+1->¬((x.1[j]).d=m/\(x.1[j]).j=q)))->
    ∃g,(e? (M c) λp=>M (n? (β:=List (Int×Int)) (ρ:=Unit) (p,aa .i64 ((n:Int)+1))))=M (.go g)/\(∃n:Nat,g.2=n/\n<=a00 x.1/\∀q,(∃k:Nat,Uq g.1 q=M (k:Int)/\∃h:k<a00 x.1,k<n/\((x.1[k]).d=m/\(x.1[k]).j=q)/\∀j (hj:j<k),¬((x.1[j]' U).d=m/\(x.1[j]' U).j=q))\/(Uq g.1 q=u4/\∀j (hj:j<a00 x.1),j<n->¬((x.1[j]).d=m/\(x.1[j]).j=q)))/\(a00 x.1-g.2).toNat<(a00 x.1-(n:Int)).toNat:=λc h=>by
    refine⟨_,rfl,⟨n+1,by dsimp only;rw[Ha U],hn,h⟩,by dsimp only;rw[Ha U];omega⟩
   have keep:¬((x.1[n]).d=m)\/(Uq mp (x.1[n]).j).isSome=a29->∀q,(∃k:Nat,Uq mp q=M (k:Int)/\∃h:k<a00 x.1,k<n+1/\((x.1[k]).d=m/\(x.1[k]).j=q)/\∀j (hj:j<k),¬((x.1[j]' U).d=m/\(x.1[j]' U).j=q))\/(Uq mp q=u4/\∀j (hj:j<a00 x.1),j<n+1->¬((x.1[j]).d=m/\(x.1[j]).j=q)):=λhk q=>by
    rcases d q with⟨k,a,b,k3,k4⟩|⟨a,b⟩
    .exact .inl ⟨k,a,b,U,k4⟩
    .refine .inr ⟨a,λj hj l=>?_⟩;by_cases e:j=n
     .subst e;rintro⟨e1,e2⟩;rcases hk with hk|hk
      .exact hk e1
      .rw[e2,a]at hk;simp at hk
     .exact b j hj U
   by_cases hm:(x.1[n]).d=m
   case neg=>
    rw[J hm];exact .inl (fin mp (keep (.inl hm)))
   rw[s7 (E!.2 hm)];by_cases f:(Uq mp (x.1[n]).j).isSome=a29
   .rw[s7 (by rw[f];simp)];exact .inl (fin mp (keep (.inr f)))
   .rw[J (by simpa using f)];refine .inl (fin _ λq=>?_);rw[yA];by_cases hq:q=(x.1[n]).j
    .rw[J hq];refine .inl ⟨n,rfl,hn,U,⟨hm,hq.symm⟩,λj hj=>?_⟩;rcases d q with⟨k,a,-⟩|⟨a,b⟩
     .rw[hq]at a;rw[a]at f;simp at f
     .exact b j U hj
    .rw[s7 hq];rcases d q with⟨k,a,b,k3,k4⟩|⟨a,b⟩
     .exact .inl ⟨k,a,b,U,k4⟩
     .refine .inr ⟨a,λj hj l=>?_⟩;by_cases e:j=n
      .subst e;exact λh=>hq h.2.symm
      .exact b j hj U
  .rw[s7];refine .inr (.inl ⟨_,rfl,λq=>?_⟩);rcases d q with⟨k,a,b,k3,k4,k5⟩|⟨a,b⟩
   .exact .inl ⟨k,a,b,fY b k4 k5⟩
   .exact .inr ⟨a,eY λj hj=>b j hj U⟩) (x:=([],0)) ⟨0,rfl,U,λq=>.inr ⟨rfl,λj hj h=>U⟩⟩with⟨mp,m1,m2⟩|⟨_,_,h⟩
 .exact⟨mp,m1,m2⟩
 .exact h.elim
theorem eQ(hA:∀a∈A,yD a) (hAl:A.length<=1048576) (hj:Za j=M (rs,n)) (hr:∀r∈rs,a00 r.u<=4096) (b:rs.length<=1099511627776) (m:Int):Uo A j m=M (A.map (Au m rs)):=by
 unfold Uo cj;rw[hj,b?,b?];dsimp only;obtain⟨mp,m1,m2⟩:=xV (m:=m) (x:=(rs,n)) b;rw[m1,b?];dsimp only at m2⊢;rw[show uz 112 (ic.mk (na.mk 0 0 0 []) [] [] 0 0) 0 (a00 A:Int)=M [] by unfold uz;rw[J];rfl,b?];have:ja (rm A (rs,n) mp) ([],0)=M (.inl (A.map (Au m rs))):=by
  refine lf (λi=>((A.take i).map (Au m rs),(i:Int))) A.length _ (λi hi=>?_) ?_ rfl
  .obtain⟨s1,s2,s3⟩:=hA _ (E' hi);unfold rm Ms;dsimp only;rw[J,Ma hi,b?,Lf aaS,b?,Lf aaS,b?,Lf aaS,b?,b?];simp only[G?];have e:(A.take (i+1)).map (Au m rs)=(A.take i).map (Au m rs)++[Au m rs A[i]]:=by rw[←oah hi,ψ];rfl
   rcases m2 (A[i]).j.Id with⟨k,c,d,k3⟩|⟨c,k3⟩
   .unfold Ns;have hk:=hr _ (E' d);rw[c,J (show(M (k:Int)).isSome=a29 from rfl),aah,Ma d,b?,Lf U,b?];have hx:Au m rs A[i]=apR A[i] rs[k]:=by unfold Au;rw[k3]
    by_cases hd:0<=(rs[k]).g
    .rw[J hd,b?];dsimp only;rw[b?,b?];dsimp only;rw[Lf aaO,b?,Ha U,e,hx];unfold apR;rw[J hd,J hd]
    .rw[s7 hd,b?];dsimp only;rw[b?,b?];dsimp only;rw[Lf aaO,b?,Ha U,e,hx];unfold apR;rw[s7 hd,s7 hd]
   .have hx:Au m rs A[i]=A[i]:=by unfold Au;rw[k3]
    rw[c,s7 p6,b?];dsimp only;rw[Lf aaO,b?,Ha U,e,hx]
  .unfold rm;dsimp only;rw[s7,υ]
 rw[this];rfl
theorem gM(hj:Za j=M (rs,n)) (hrl:rs.length<=1048576):Km j=M (rs.map (·.aq)):=by
 unfold Km cj;rw[hj,b?,b?];have:ja (Ak (rs,n)) ([],0)=M (.inl (rs.map (·.aq))):=by
  refine lf (λi=>((rs.take i).map (·.aq),(i:Int))) rs.length _ (λi hi=>?_) ?_ rfl
  .have e:(rs.take (i+1)).map (·.aq)=(rs.take i).map (·.aq)++[(rs[i]).aq]:=by rw[←oah hi,ψ];rfl
   unfold Ak;dsimp only;rw[J,Ma hi,b?,Lf aaO,b?,Ha U,e]
  .unfold Ak;dsimp only;rw[s7,υ]
 rw[this];rfl
theorem aW5(hl:rs.length<=1099511627776) (h m:Int):∃x,aw rs h m=M x/\((x.2=a29/\fR m h rs=M x.1)\/(x.2=a30/\fR m h rs=u4)):=by
 unfold aw;rcases Rw (s:=Wt rs h m) (λi=>∃n:Nat,i=n/\n<=a00 rs/\∀j (hj:j<n) (a:j<a00 rs),¬((rs[j]).d=m/\(rs[j]).j=h)) (λi=>(a00 rs-i).toNat) (λ_=>fR m h rs=u4) (λv=>v.2=a29/\fR m h rs=M v.1) (by
  rintro i ⟨n,rfl,hn,hk⟩;unfold Wt;by_cases hi:n<a00 rs
  .rw[J,Ma hi,b?];by_cases hc:(rs[n]).d=m/\(rs[n]).j=h
   .rw[J hc.2,b?,J (by simp[hc.1]),b?];exact .inr (.inr ⟨_,rfl,rfl,fY hi hc λj hj=>hk j hj U⟩)
   .have hb:∃b:Bool,(if(rs[n]).j=h then M ((rs[n]).d==m)else M a30)=M b/\b=a30:=by
     by_cases hh:(rs[n]).j=h
     .rw[J hh];exact⟨_,rfl,by simpa using λe=>hc ⟨e,hh⟩⟩
     .exact⟨_,s7 hh,rfl⟩
    obtain⟨b,hb,rfl⟩:=hb;rw[hb,b?,s7 p6,Ha U];refine .inl ⟨_,rfl,⟨n+1,rfl,hi,λj hj a=>?_⟩,U⟩;by_cases e:j=n
    .subst e;exact hc
    .exact hk j U a
  .rw[s7];exact .inr (.inl ⟨_,rfl,eY λj hj=>hk j U hj⟩)) (x:=0) ⟨0,rfl,U,λj hj=>U⟩with⟨b,c,d⟩|⟨b,c,d⟩
 .rw[c];exact⟨_,rfl,.inr ⟨rfl,d⟩⟩
 .rw[c];exact⟨_,rfl,.inl d⟩
theorem LS(hA:∀a∈A,yD a) (hAl:A.length<=1048576) (hj:Za j=M (rs,n)) (hr:∀r∈rs,a00 r.u<=4096) (f:rs.length<=1099511627776) (m:Int):Hr A j m=M (A.map (Au m rs)):=by
 unfold Hr cm;rw[hj,b?];have:ja (Em A m (rs,n)) ([],0)=M (.inl (A.map (Au m rs))):=by
  refine lf (λi=>((A.take i).map (Au m rs),(i:Int))) A.length _ (λi hi=>?_) ?_ rfl
  .obtain⟨s1,s2,s3⟩:=hA _ (E' hi);unfold Em;dsimp only;have e:(A.take (i+1)).map (Au m rs)=(A.take i).map (Au m rs)++[Au m rs A[i]]:=by rw[←oah hi,ψ];rfl
   obtain⟨x,g,c⟩:=aW5 f (A[i]).j.Id m;rw[J,Ma hi,b?,g,b?];have b:∀y:ic,app 112 ((A.take i).map (Au m rs)) [y]=M ((A.take i).map (Au m rs)++[y]):=λy=>Lf aaO;rcases c with⟨c,d⟩|⟨c,d⟩
   .obtain⟨m1,m2,m3⟩:=Uaa d;have hk:=hr _ m1;have hx:Au m rs A[i]=apR A[i] x.1:=by unfold Au;rw[d]
    rw[J c,Lf aaS,b?,G?,Lf U,b?];by_cases hd:0<=x.1.g
    .rw[J hd,b?];dsimp only;rw[b,b?,Ha U,e,hx];unfold apR;rw[J hd,J hd,m2]
    .rw[s7 hd,b?];dsimp only;rw[b,b?,Ha U,e,hx];unfold apR;rw[s7 hd,s7 hd]
   .have hx:Au m rs A[i]=A[i]:=by unfold Au;rw[d]
    rw[s7 (by rw[c];simp),b?];dsimp only;rw[b,b?,Ha U,e,hx]
  .unfold Em;dsimp only;rw[s7,υ]
 rw[this];rfl
theorem lP(hj:Za j=M (rs,n)) (hrl:rs.length<=1048576):Sp j=M (rs.map (·.aq)):=by
 unfold Sp cm;rw[hj,b?];have:ja (Yk (rs,n)) ([],0)=M (.inl (rs.map (·.aq))):=by
  refine lf (λi=>((rs.take i).map (·.aq),(i:Int))) rs.length _ (λi hi=>?_) ?_ rfl
  .have e:(rs.take (i+1)).map (·.aq)=(rs.take i).map (·.aq)++[(rs[i]).aq]:=by rw[←oah hi,ψ];rfl
   unfold Yk;dsimp only;rw[J,Ma hi,b?,Lf aaO,b?,Ha U,e]
  .unfold Yk;dsimp only;rw[s7,υ]
 rw[this];rfl
theorem kD(hl:A.length<=1048576) (h:∀a∈A,a00 a.j.ab<=1048576/\a.u.length<=1048576/\a.af.length<=1048576):Tp A A=M a29:=by
 unfold Tp;rw[s7 p6];have:ja (bl A A) 0=M (.inl ()):=by
  refine lf (λi=>(i:Int)) A.length _ (λi hi=>?_) ?_ rfl
  .obtain⟨b,h2,c⟩:=h _ (E' hi);unfold bl;rw[J,b?,D2 U,J (rfl:a29=a29),Ma hi,b?,b?,OE b h2 c,b?,s7 p6,Ha U]
  .simp[bl]
 rw[this];rfl
theorem QE{l:List se}(hl:l.length<=1099511627776):Mr l l=M a29:=by
 unfold Mr;rw[s7 p6];have:ja (Hm l l) 0=M (.inl ()):=by
  refine lf (λi=>(i:Int)) l.length _ (λi hi=>?_) ?_ rfl
  .unfold Hm;rw[J,b?,D2 U,J (rfl:a29=a29),Ma hi,b?,b?,s7 p6,Ha U]
  .simp[Hm]
 rw[this];rfl
theorem Yac(m:Int) (hr:∀r∈rs,a00 r.u<=4096) (a:ic):(Au m rs a).j=a.j/\(Au m rs a).af=a.af/\(Au m rs a).u.length<=a00 a.u+4096:=by
 unfold Au
 cases e:fR m a.j.Id rs with
 |none=>exact⟨rfl,rfl,by dsimp only;omega⟩
 |some r=>
  have:=hr r (Uaa e).1;exact⟨rfl,rfl,by simp only[apR,G!];omega⟩
theorem AD(d:Dh=M a29) {x:b6}(hj:E7 j):qj x j=M a29:=by
 unfold qj;obtain⟨b,f,g⟩:=kY x;rw[f,b?,d,b?]
 cases b with
 |false=>rfl
 |true=>
  rw[J rfl,b?];by_cases e:(20000:Int)<a00 j
  .rw[D2 e];rfl
  rw[R1 e,s7 p6];have hx:=g rfl;have hA:∀a∈x.as,yD a:=λa ha=>by obtain⟨h1,h2,h3⟩:=hx.acc a ha;exact⟨U,U,U⟩
  have hAl:=hx.len;obtain⟨rs,n,d1,d2,d3,c⟩:=aw7 hj U;have i:=eQ hA U d1 c U x.d;have hr:=LS hA U d1 c U x.d;rw[i,b?,hr,b?,kD (by rw[Kaf];omega) (λa ha=>by
   obtain⟨a0,h,rfl⟩:=V!.1 ha;obtain⟨k1,k2,k3⟩:=hx.acc a0 h;obtain⟨q1,k,q3⟩:=Yac x.d c a0;rw[q1,k];omega),b?,J rfl,gM d1 U,b?,lP d1 U,b?,QE (by rw[Kaf];omega),b?]
  rfl
def teR:ke:=ke.mk (z? #[98,97,115,101]) 0 (-1) 0 (js.mk 0 109573) ([]) ([(ia.mk 3 500)]) (z? #[])
def rD:fr:=fr.mk (z? #[104,111,117,115,101]) (-1) ([(mu.mk (z? #[97]) (ek.mk 3 0))]) ([(mu.mk (z? #[100]) (ek.mk 3 0))]) [teR]
def sw:ej:=ej.mk ([]) ([]) [rD]
def aI:ka:=ka.mk 0 (-1) 0 (bz.mk 3 0 1) (js.mk 0 109573) 0
def xD(l:List ka):na:=na.mk 3 0 0 l
def Iu:kv:=kv.mk 0 0 20 0 0 0 5 (ve.mk 0 ([]))
def teE:ll:=⟨0,[⟨3,0,1⟩],[⟨0,0,0⟩],[],[],[]⟩
theorem bf4:wq sw 0 rD=(0,0):=by
 have hc:ff (L1 rD) rD.f.length=u4:=Mb.2 λi hi=>by
  have:i=0:=by grind[rD]
  subst this;unfold L1;rw[if_neg];rw[←UH];have:(CT rD 0 rD.f.length).contains 0=a30:=aaK
  simp_all
 unfold wq;rw[hc];rfl
theorem PK:yq sw=⟨0,0,0,0⟩:=by
 unfold yq;simp only[show sw.z.length=0 from rfl,show sw.Tables.length=0 from rfl,show sw.e.length=1 from rfl,ff];rw[show sw.e[0]?=M rD from rfl]
 grind[bf4]
theorem MW:hhV sw (xD [aI])=(0,0):=aaK
theorem wz:p? sw:=by
 have a:ς rD:=by constructor<;>simp[rD,teR]
 constructor<;>simp[sw,a];simp[rD,teR,Pd]
 decide
theorem NK:M! sw:=by constructor<;>simp[sw,rD]
theorem wP:tc Iu.am=M a29:=by
 unfold tc;rw[Gb (step:=Dd Iu.am) (b:=()) rfl];rfl
theorem aJ1{l:List ka}(h:hhV sw (xD l)=(0,0)):qf sw (xD l) Iu=M a29:=by
 unfold qf Qa;rw[Nk wz,Mg _ _ wz.ns,h,PK,wP];rfl
theorem aI8:oL [aI] (-1) 0 0 19=(⟨3,0,1⟩,a29):=by
 rcases(kX (l:=[aI]) p6 (-1) 0 0 19).2 with⟨-,e⟩|⟨f,h,e,-⟩
 .have:=e aI p6;exact absurd this s6
 .rw[pag]at h;rw[e,h];rfl
theorem TK:Fw sw rD (xD [aI]) 0 19=(⟨0,[⟨3,0,1⟩],[]⟩,0):=by
 have hm:Fs (xD [aI]) 0 19=[]:=by
  unfold Fs;rw[show(min (max (xD [aI]).w 0) 8).toNat=0 from rfl];rfl
 grind[Fw,Hs,rD,xD,aI8]
theorem af3:Om [ia.mk 3 500] teE=M (⟨3,0,500⟩,0):=by
 have hw:Wst [ia.mk 3 500]:=CP aaK;have hN:∀n∈[ia.mk 3 500],Pd n:=by simp[Pd]
 have he:O! teE:=⟨by simp[teE],by simp[teE]⟩;have ha:Gn [ia.mk 3 500] 0=0:=s6
 rw[(YW hN he hw).1];show M (HH [ia.mk 3 500] teE 0)=_;rw[(fac hw hN he 0 s6).q];unfold evQ vF;rw[s7 s6,ha];show M ((Qj ⟨3,500⟩ [] teE).getD (⟨0,0,0⟩,0))=_;unfold Qj;rw[OM,Zo,oC,W8 p6];rfl
theorem aI4:dh rD teE (-1) 0=M (0,Y7):=by
 unfold dh;rw[Pv s6,b?,show EZ rD 0 teE.g=([0],[-1],[0]) by kernel_rfl];(try dsimp only);rw[show uz 1 a30 (([0]:List Int).length:Int) (([0]:List Int).length:Int)=M [a30] by rfl,b?,Gc (s':=([a29],1)) rfl,Gb (b:=[a29]) rfl,b?];(try dsimp only);rw[Xw,b?,show J6 [-1] [0] [a29]=0 by kernel_rfl];rfl
theorem mae:jb rD ⟨0,[⟨3,0,1⟩],[],[],[],[]⟩ (-1) [a29]=M (([0],Y7),⟨0,[⟨3,0,1⟩],[⟨3,0,500⟩],[],[],[]⟩):=by
 unfold jb;rw[show uz 24 (bz.mk 0 0 0) (a00 rD.f:Int) (a00 rD.f:Int)=M [⟨0,0,0⟩] by rfl,b?,show uz 8 (0:Int) (a00 rD.f:Int) (a00 rD.f:Int)=M [0] by rfl,b?,jr (wz.s rD (by simp[sw])).2.1,b?,show wx (Yq rD)=([0],0) by kernel_rfl];rw[Gc (s':=([⟨3,0,500⟩],[0],1)) (by
  unfold bf;(try dsimp only);rw[J s6,show e! ([0]:List Int) 0=M 0 by rfl,b?,show e! [a29] 0=M a29 by rfl,b?,s7 s6];rw[show ll.mk 0 [⟨3,0,1⟩] [⟨0,0,0⟩] [] [] []=teE from rfl,aI4,b?,s7 s6,s7 s6,s7 s6,show e! rD.n 0=M teR by rfl,b?,show teR.Value=[ia.mk 3 500]from rfl,af3];rfl),Gb (b:=([⟨3,0,500⟩],[0])) rfl]
 rfl
theorem aI6:Ce sw 0 ⟨0,[⟨3,0,1⟩],[]⟩ 0=M (⟨3,0,500⟩,0,Y7):=by
 obtain⟨g,hh⟩:=TO (l:=sw) (h:=xD [aI]) (by rw[MW]);have e:g=0:=by have:=hh.sc;grind[xD]
 subst e;have f:(yq sw).Code=0:=by rw[PK]
 have a:=(sX wz f hh (d:=0) (r:=19) (def_:=0) (by grind[sw,TK]) (by simp[sw,rD])).1;rw[show sw.e[0]=rD from rfl,TK]at a;have c:∀x∈sw.e,a00 x.n<=64:=by simp[sw,rD]
 dsimp only at a;refine(nI wz (aL f) c (i:=0) s6 (d:=0) (by simp[sw,rD]) a).trans ?_;rw[show VY sw 0 s6 0=⟨rD,⟨z? #[],0,[],[],[]⟩,[a29],[]⟩ by kernel_rfl];unfold bh;rw[Gb (b:=[]) rfl,b?];(try dsimp only);rw[Gb (b:=([],[])) rfl,b?];(try dsimp only);rw[show jb rD ⟨0,[⟨3,0,1⟩],[],[],[],sw.Tables⟩ (-1) [a29]=_ from mae];rfl
theorem bf3{l:List ka}(h:l=[]\/l=[aI]):V0 sw (xD l) 19=[]:=by
 rcases h with rfl|rfl<;>kernel_rfl
theorem aI7:xI sw (xD [aI]) Iu 0 19=⟨0,500,0⟩:=by
 have b:gh sw 0 (xD [aI]) 0 19 0=(⟨3,0,500⟩,0):=by
  unfold gh;rw[show sw.e[0]?=M rD from rfl];(try dsimp only);rw[TK,s7 s6];(try dsimp only);rw[show((0:Nat):Int)=0 from rfl,aI6];rfl
 have a:Z7 sw (xD [aI]) 0 19=[⟨0,31⟩]:=by unfold Z7;rw[bf3 (.inr rfl),nae];rfl
 unfold xI;rw[nae,s7 s6,aJ1 MW,aah,s7 s6,a];unfold uF Dy;simp only[w!,A?,ff,List.getElem?_cons_zero,w?,D!];rw[show(xD [aI]).Scope.toNat=0 from rfl,show Iu.ac=0 from rfl,b];rfl
theorem OW:Ls sw Iu ⟨xD [aI],[],[],0,-1⟩ 0 19=[Ks [] ⟨0,500,0⟩]:=by
 unfold Ls;rw[show((0:Int)+1-Iu.aj).toNat=1 from rfl];simp only[List.range_one,w?,D!];rw[show Iu.aj+((0:Nat):Int)=0 from rfl,aI7];rfl
theorem lae:q! sw Iu ⟨xD [aI],[],[],0,-1⟩:=by
 refine⟨?_,by rw[MW],p6,.inl rfl,⟨p6,λi h=>by simp at h⟩,p6,p6,λi h=>by simp at h,Ar.2 ⟨by simp[xD,aI],p6,p6⟩⟩;unfold Qa;rw[Nk wz,PK,wP];rfl
theorem aI3:Jh sw Iu ⟨xD [aI],[],[],0,-1⟩=M 0:=by
 obtain⟨n,a,b⟩:=Lv wz (c:=Iu) aaP (t:=⟨xD [aI],[],[],0,-1⟩) (by simp[xD]) p6 p6;rw[a,b.2 lae]
theorem aI5(x:ka):xe sw Iu ⟨xD [aI],[],[],0,-1⟩ ⟨2,19,0,0,0,0,0,0,x⟩=M (⟨xD [aI],[⟨19,0,1,500⟩],[],19,0⟩,0):=by
 unfold xe;rw[aI3,b?,s7 p6,GJ,b?,D2 p6,s7 p6,s7 p6,Q9 (by simp[xD]) p6 p6,b?];(try dsimp only);rw[s7 p6,J rfl];unfold uk;rw[XF,b?,D2 (show Xq Iu 0 by decide),s7 p6,s7 p6];have e1:=Is wz NK (t:=⟨xD [aI],[],[],0,-1⟩) (by simp[xD]) (c:=Iu) aaP p6 p6 (to:=0) aaP aaP 19;rw[s7 aaP,OW]at e1;have e2:qb sw Iu (ic.mk (na.mk 3 0 0 [aI]) [] [] 0 (-1)) 0 19=_:=e1;obtain⟨S,s1,s2⟩:=dT (A:=[]) p6;have a:∀b∈[Ks [] (⟨0,500,0⟩:nb)],Y? b:=by
  have:=rQ wz NK (t:=⟨xD [aI],[],[],0,-1⟩) (by simp[xD]) (c:=Iu) aaP lae (to:=0) (rec:=19) aaP p6 aaP;rw[OW]at this;exact λb hb=>(this.b b hb).1
 obtain⟨lim,g1,g2,g3,g4⟩:=aG8 (c:=Iu) aaP a p6 (S:=S) U 0 19;simp only[xD,b?,e2,s1,g4];have hQ:Ct Iu 0 19 S lim [Ks [] ⟨0,500,0⟩]=[⟨19,0,1,500⟩]:=by
  unfold Ct;rw[show Zv 0 19 [Ks [] ⟨0,500,0⟩]=[⟨19,0,1,500⟩] by kernel_rfl];unfold Tq;have ho:uu (Ks [] ⟨0,500,0⟩)<=0:=s6
  split<;>simp[ho,Tq]
 rw[hQ,aG4 p6 p6];rfl
def KN:ic:=⟨xD [aI],[],[],0,-1⟩
def teQ:cb:=⟨19,0,1,500⟩
def nU:ma:=ma.mk 3 0 19 (se.mk 12288 3 0 2 500) [teQ]
theorem kae:Ih Iu.am 19=M a29:=by
 unfold Ih dr;rw[Kl,b?,s7 s6,b?,show Ead Iu.am.ba (Int.tmod 19 7)=M 0 by rfl,b?,s7 s6];unfold ab;rw[Gb (b:=0) rfl];rfl
theorem af4:Ff Iu.am 19=M a29:=by
 unfold Ff Pb;rw[wP,b?,J rfl,J s6,b?,b?,J s6,kae];rfl
theorem af7:Fh 0 Iu.am Iu.bb=M (19,0):=by
 unfold Fh;rw[wP,b?,J rfl,J s6,b?,s7 s6,ux,b?,nae,s7 s6];obtain⟨d,d1,d2,d3⟩:=NP 0;have hd:d=31:=by
  have:Zl 0=M 31:=by
   unfold Zl;rw[vx,b?,s7 s6,(HB (t:=0) s6 s6).1,(HB (t:=0) s6 s6).2,Rb s6 s6 s6];rfl
  rw[this]at d1;cases d1;rfl
 rw[d1,hd,b?];rw[ep (v:=(19,0)) (by
  unfold Vk;rw[show aa .i64 (aa .i64 (0+min Iu.bb 31)-1)=19 by rfl,J s6,af4];rfl)]
 rfl
theorem af6:Cq sw Iu KN 0=M (19,[teQ],a29):=by
 unfold Cq;rw[af7,b?,s7 p6];rw[show xe sw Iu KN (wt.mk 2 (max (19,0).1 KN.g) 0 0 0 0 0 0 (ka.mk 0 0 0 (bz.mk 0 0 0) (js.mk 0 0) 0))=_ from aI5 _];rfl
theorem aJ0:Fl sw Iu KN 0 19=M 500:=by
 unfold Fl;have e1:=Is wz NK (t:=KN) (by simp[KN,xD]) (c:=Iu) aaP (by simp[KN]) (by simp[KN]) (to:=0) aaP aaP 19;rw[s7 aaP,show Ls sw Iu KN 0 19=_ from OW]at e1;rw[e1];rfl
theorem af8:bm [teQ]=M 500:=by
 unfold bm;rw[Gc (s':=(500,1)) rfl,Gb (b:=500) rfl];rfl
theorem aI9:Xd 3 0 500 [teQ]=M (se.mk 12288 3 0 2 500,0):=by
 unfold Xd;rw[aA1 ⟨s6,s6,s6⟩,b?,s7 p6,Gc (s':=(a29,a30,500,1)) rfl,Gb (b:=(a29,a30,500)) rfl,b?];dsimp only;rw[af8];rfl
theorem iae:Fe sw Iu KN 0=M (nU,0):=by
 unfold Fe;rw[show kp KN.j.Id 0=M (12288,0)from aA1 ⟨s6,s6,s6⟩,b?,s7 p6,af6,b?,J rfl,aJ0,b?,b?];dsimp only;rw[show Xd KN.j.Id 0 500 [teQ]=_ from aI9];rfl
theorem af5:eG sw Iu 0 KN=nU:=by unfold eG;rw[iae];rfl
theorem LK:cy sw Iu 0 [KN]=[nU]:=by
 unfold cy Yr Yr;rw[J s6,af5]
theorem jae:∀a∈[KN],yD a:=by
 intro a ha;rw[pag]at ha;subst ha;exact⟨s6,s6,s6⟩
theorem NW:∀r∈[nU],Lx r:=by
 have:=fJ (m:=0) (S:=[]) wz NK (c:=Iu) aaP jae;rw[show Yr sw Iu 0 [KN] []=[nU]from LK]at this;exact λr hr=>(this r hr).1
theorem OK:(z! nU).length=112:=by rw[gA];rfl
def cI:Sd [nU]=z! nU:=Aaa _
theorem BZ(b:Int) (hb:b<9223372036854775808):kg sw Iu [KN] 0 [] b=M (Ki [nU] (max b 0)):=by
 have hj:=φ.nil NW;have:=T8 (m:=0) wz NK (c:=Iu) aaP jae p6 (j:=[]) (q:=0) (by rw[LK];exact hj.d) (by rw[LK];exact hj.t) (by rw[LK];exact hj.l) hb;rw[this,LK];rfl
theorem gae:Za (z! nU)=M ([nU],(112:Int)):=by
 have:=xX NW (by rw[cI,OK];decide);rw[cI,OK]at this;exact this
theorem wL:Dh=M a29:=by
 unfold Dh rB;rw[show zv [ia.mk 3 500]=M sw from rfl,b?,b?];dsimp only;rw[show kv.mk 0 0 20 0 0 0 5 (ve.mk 0 [])=Iu from rfl,show ic.mk (na.mk 3 0 0 [ka.mk 0 (-1) 0 (bz.mk 3 0 1) (js.mk 0 109573) 0]) [] [] 0 (-1)=KN from rfl];rw[show e! [KN] 0=M KN from rfl,b?,iae,b?,BZ _ s6,b?,BZ _ s6,b?];rw[show Ki [nU] (max 1099511627776 0)=(z! nU,a29) by rw[az (by rw[cI,OK];decide),cI]];rw[show Ki [nU] (max 10 0)=((z! nU).take 10,a30) by rw[Ki,OK];rfl];dsimp only;rw[eQ jae p6 gae (λr hr=>(NW r hr).2) p6 0,b?,gM gae p6,b?];rw[show((List.take 10 (z! nU)).length:Int)=10 by rw[U',OK];rfl];rfl
end
end Go.Proofs.Dev
