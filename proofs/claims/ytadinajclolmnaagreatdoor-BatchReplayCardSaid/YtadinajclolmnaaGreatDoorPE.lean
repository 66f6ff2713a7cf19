/-
  The functions as plain partial functions, and plain lemmas about them: no condition.
-/
import Derived.Test.YtadinajclolmnaaGreatDoorPD
open Option renaming some->M,none->u4
open Decidable renaming decide->D1
open Bool renaming false_eq_true->M',true->a29,false->a30
open Classical renaming not_not->E!
open Int renaming le_refl->Dai
open List renaming any_eq_true->xai,filter_cons->yai,foldl_append->uah,foldl_cons->Yaf,foldl_filter->yaj,foldl_nil->fai,getElem?_eq_getElem->x!,getElem_mem->E',getElem_of_mem->O',length_append->G!,length_cons->w!,length_nil->A?,length_take->U',map_append->ψ,map_cons->w?,map_nil->D!,mem_append->Ρ,mem_cons->X',mem_cons_of_mem->fah,mem_map->V!,mem_of_mem_take->Xaf,nodup_cons->dah,range->s?,replicate->h!,sum_cons->Uai,length->a00
open Nat renaming le_refl->A',le_trans->Lag,lt_or_ge->Ο
open Option renaming bind->e?,bind_some->b?
open Option.some renaming inj->R'
set_option linter.all false
set_option maxRecDepth 10000
set_option maxHeartbeats 1000000
namespace Go.Proofs.Dev
open Go Go.Tm
variable {m d rec n lim:Int}{p q:cb}{α ρ:Type}{i:Nat}{A:List ml}{P:List cb}{w:nb}{S:List Int}
theorem vH{l:List ka}(hl:l.length<=1048576):ew l l=M a29:=by
 unfold ew;rw[s7 p6];have e:ja (Rm l l) 0=M (.inl ()):=lf (step:=Rm l l) (λi=>(i:Int)) l.length () (λi hi=>by
  unfold Rm;simp only[show(i:Int)<(a00 l:Int) by omega,B?,ι,b?,Ma hi]
  grind[Ha]) (by grind[Rm]) rfl
 simp_all
theorem wrap_i64(n:Int):aa .i64 n=(n+9223372036854775808) % 18446744073709551616-9223372036854775808:=by
 show BC n 9223372036854775808 18446744073709551616=_;unfold BC
 grind
theorem ab4(a b:Int):aa .i64 (aa .i64 a+b)=aa .i64 (a+b):=by
 grind[wrap_i64]
def XS(p:cb):Int:=if p.a=1 then p.ae else if p.a=2\/p.a=3 then aa .i64 (-p.ae)else 0
theorem nH(p:cb):Jp p=M (XS p):=by
 grind[Jp,XS]
def HA(m:Int) (l:List cb):Int:=l.foldl (λs p=>if p.d=m then aa .i64 (s+XS p)else s) 0
def UW(m:Int) (l:List cb):Int:=l.foldl (λs p=>if p.d=m/\p.a=4 then aa .i64 (s+p.ae)else s) 0
theorem nB{α:Type}(c:α->Bool) (v:α->Int):∀(l:List α) (s:Int),l.foldl (λs p=>if c p=a29 then aa .i64 (s+v p)else s) (aa .i64 s)=aa .i64 (s+(l.map λp=>if c p=a29 then v p else 0).sum)
 |[],s=>p6
 |p::l,s=>by
  simp only[Yaf,w?,Uai];by_cases h:c p=a29
  .simp only[h,B?];rw[ab4,nB c v l]
   grind
  .simp only[h,G1,M'];rw[nB c v l];simp
theorem ay6(p:cb):vL p=XS p:=by
 grind[vL,XS]
theorem iT(m:Int):∀l:List cb,((l.filter λp=>p.a==1).map λp=>if(p.d==m)=a29 then vL p else 0).sum+((l.filter λp=>p.a==2).map λp=>if(p.d==m)=a29 then vL p else 0).sum+((l.filter λp=>p.a==3).map λp=>if(p.d==m)=a29 then vL p else 0).sum=(l.map λp=>if(p.d==m)=a29 then XS p else 0).sum
 |[]=>rfl
 |p::l=>by
  have d:=iT m l;have h0:¬p.a=1->¬p.a=2->¬p.a=3->XS p=0:=λa b c=>by grind[XS]
  simp only[yai,w?,Uai,T!,ay6]at d⊢
  grind
theorem w0:aa .i64 0=0:=s6
theorem lZ(m:Int) (l:List cb):mK m l [1,2,3]=HA m l:=by
 have a:HA m l=aa .i64 (0+(l.map λp=>if(p.d==m)=a29 then XS p else 0).sum):=by
  rw[←nB (λp=>p.d==m) XS l 0,w0]
  grind[HA]
 unfold mK;simp only[Yaf,fai];have e:∀k s,(l.filter λp=>p.a==k).foldl (λs p=>if(p.d==m)=a29 then aa .i64 (s+vL p)else s) (aa .i64 s)=_:=λk s=>nB (λp:cb=>p.d==m) vL _ s;rw[←w0,e,e,e,a,←iT m l];simp
theorem oE{l:List cb}(hl:l.length<=1048576) (m:Int):Qf l m=M (HA m l):=by
 unfold Qf;rw[J,lZ]
theorem mH{l:List cb}(hl:l.length<=1048576) (m:Int):Eh l m=M (UW m l):=by
 unfold Eh;rw[J,yaj]
 grind[UW]
theorem yA{β:Type}{k:Int}{x:β}{q:Int}:∀{l:List (Int×β)},Uq (ZC k x l) q=if q=k then M x else Uq l q
 |[]=>rfl
 |(a,b)::l=>by
  unfold ZC;split
  .grind[Uq]
  .rename_i h;simp only[Uq,yA (l:=l)]
   grind
theorem X5{l:List cb}:HA m (l++[p])=if p.d=m then aa .i64 (HA m l+XS p)else HA m l:=by
 grind[HA]
theorem ffc{l:List α}{q:α->Bool}{v:ρ}:ff (λi=>if(l[i]?.any q)=a29 then M v else u4) l.length=if l.any q=a29 then M v else u4:=by
 have h:=OO (l:=l) (q:=q) (g:=λ_=>v)
 cases hf:ff (λi=>if(l[i]?.any q)=a29 then M v else u4) l.length with
 |none=>
  grind
 |some w=>
  rw[hf]at h;rw[J (show l.any q=a29 from h.symm)]
  grind[Vb]
theorem mB{l:List α}(hl:l.length<=1048576) (q:α->Bool) (v:ρ) {step:Int->Option (Ex Int Unit ρ)}
 (hs:∀i (h:i<a00 l),step (i:Int)=M (if q l[i]=a29 then .ret v else .go (aa .i64 ((i:Int)+1)))) (he:step (a00 l:Int)=M (.brk ())) :
 ja step 0=M (if l.any q=a29 then .inr v else .inl ()):=by
 have:ja step 0=M (Aj () (ff (λi=>if(l[i]?.any q)=a29 then M v else u4) l.length)):=
  Ji (λi=>(i:Int)) _ l.length () (λi hi _=>by
   grind[qL,Ha]) (λ_=>he)
 rw[this,ffc];by_cases h:l.any q=a29
 .rw[J h,J h];rfl
 .rw[s7 h,s7 h];rfl
def xL(c:kv) (t:ic) (m:Int):Bool:=D1 (m<c.aj\/t.ag<m\/1000000000000000<HA m t.u\/1000000000000000<UW m t.u)
theorem Xab{l:List cb}(hl:l.length<=1048576):Ip l=M (ph (l.map (·.d))):=by
 unfold Ip;have:ja (Sk l) (([]:List Int),0)=M (.inl (l.map (·.d))):=by
  refine lf (λi=>((l.take i).map (·.d),(i:Int))) l.length _ (λi hi=>?_) ?_ rfl
  .have h2:(l.take i).length<=a00 l:=s5
   unfold Sk;dsimp only;rw[J,Ma hi,b?,Lf s5,b?,Ha U,we hi]
   grind
  grind[Sk]
 grind[uZ]
theorem CS{c:kv}{t:ic}(hl:t.u.length<=1048576) {L:List Int}(a:L.length<=1048576):ja (oh c t L) 0=M (if L.any (xL c t)=a29 then .inr 3 else .inl ()):=by
 refine mB a _ _ (λi hi=>?_) ?_
 .unfold oh;rw[J,Ma hi];simp only[b?,oE hl,mH hl]
  grind[xL]
 grind[oh]
theorem yU{c:kv}{t:ic}:(ph (t.u.map (·.d))).any (xL c t)=t.u.any λp=>xL c t p.d:=by
 rw[Bool.eq_iff_iff,xai,xai];constructor
 .rintro⟨m,hm,hb⟩;obtain⟨p,a,rfl⟩:=V!.1 (((Nh _).2.2 _).1 hm)
  grind
 .rintro⟨p,a,hb⟩;exact⟨p.d,((Nh _).2.2 _).2 (V!.2 ⟨p,a,rfl⟩),hb⟩
def ZM(t:ic):Bool:=(t.j.ab.any λf=>D1 (t.g<f.ar)) || ((t.u.any λp=>D1 (t.g<p.g)) || t.af.any λa=>D1 (t.g<a.az))
theorem qab{t:ic}(a:t.j.ab.length<=1048576) (h2:t.u.length<=1048576) (b:t.af.length<=1048576):Nn t=M (!ZM t):=by
 unfold Nn ZM;rw[mB a (λf=>D1 (t.g<f.ar)) a30 (λi hi=>by
  unfold xn;rw[J,Ma hi,b?]
  grind) (by grind[xn])]
 rw[mB h2 (λf=>D1 (t.g<f.g)) a30 (λi hi=>by
  unfold vn;rw[J,Ma hi,b?]
  grind) (by grind[vn])]
 rw[mB b (λf=>D1 (t.g<f.az)) a30 (λi hi=>by
  unfold tn;rw[J,Ma hi,b?]
  grind) (by grind[tn])]
 grind
def rk(p:cb):Prop:=(0<=p.g/\p.g<=109572)/\(0<=p.d/\p.d<=3599)/\(1<=p.ae/\p.ae<=1000000000000000)/\1<=p.a/\p.a<=4
instance (p:cb):Decidable (rk p):=by unfold rk;infer_instance
def Pz(l:List cb):Prop:=a00 l<=4096/\∀i (h:i<a00 l),rk l[i]/\(∀_:0<i,l[i-1].g<=l[i].g)/\0<=HA l[i].d (l.take (i+1))
def QL(l:List cb):List (Int×Int):=l.foldl (λm p=>ZC p.d (aa .i64 ((Uq m p.d).getD 0+XS p)) m) []
theorem jN{l:List cb}:QL (l++[p])=ZC p.d (aa .i64 ((Uq (QL l) p.d).getD 0+XS p)) (QL l):=by simp[QL]
theorem Mab(l:List cb) (q:Int):(Uq (QL l) q).getD 0=HA q l:=by
 have key:∀i,i<=a00 l->∀q,(Uq (QL (l.take i)) q).getD 0=HA q (l.take i):=by
  intro i
  induction i with
  |zero=>intro _ q;rfl
  |succ i ih=>
   intro hi q;rw[we hi,jN,yA,X5]
   grind
 have:=key l.length (A' _) q
 simp_all
def IL(l:List cb) (i:Nat):Option (Int×Int):=
 match l[i]? with
 |none=>u4
 |some p=>if p.g<0\/109572<p.g\/p.d<0\/3599<p.d\/p.ae<1\/1000000000000000<p.ae then M ((i:Int),3)else if p.a<1\/4<p.a then M ((i:Int),1)
  else if 0<i/\((l[i-1]?).any λq=>D1 (p.g<q.g))=a29 then M ((i:Int),9)else if HA p.d (l.take (i+1))<0 then M ((i:Int),13)else u4
theorem pE(l:List cb):Dm l=M (if 4096<(a00 l:Int)then(4096,4)else(ff (IL l) l.length).getD (0,0)):=by
 unfold Dm;by_cases hl:4096<(a00 l:Int)
 .grind
 rw[s7 hl,s7 hl];have:ja (qi l) (([]:List (Int×Int)),0)=M (Aj () (ff (IL l) l.length)):=by
  refine Ji (λi=>(QL (l.take i),(i:Int))) _ l.length () (λj hj _=>?_) (λ_=>?_)
  .unfold qi;dsimp only;rw[J,Ma hj,b?];have a:(e? (α:=Bool) (e? (α:=Bool) (if¬l[j].g<0 then M (D1 (109572<l[j].g))else M a29) λf=>if f=a29 then M a29 else e? (α:=Bool) (if¬l[j].d<0 then M (D1 (3599<l[j].d))else M a29) λc=>if c=a29 then M a29 else if¬l[j].ae<1 then M (D1 (1000000000000000<l[j].ae))else M a29) λb=>M b)=M (D1 (l[j].g<0\/109572<l[j].g\/l[j].d<0\/3599<l[j].d\/l[j].ae<1\/1000000000000000<l[j].ae)):=by
    grind
   have bi:∀o:Option Bool,(e? o λb=>M b)=o:=λo=>p6
   rw[bi]at a;rw[a];unfold IL;rw[x! hj];dsimp only;simp only[b?];by_cases g:l[j].g<0\/109572<l[j].g\/l[j].d<0\/3599<l[j].d\/l[j].ae<1\/1000000000000000<l[j].ae
   .rw[D2 g,J (rfl:a29=a29),J g,wY]
   rw[R1 g,s7 p6,s7 g];rw[orQ];by_cases g2:l[j].a<1\/4<l[j].a
   .rw[D2 g2,J (rfl:a29=a29),J g2,wY]
   rw[R1 g2,s7 p6,s7 g2];have ho:(if(0:Int)<(j:Int)then(e! l (aa .i64 ((j:Int)-1))).bind λd=>M (D1 (l[j].g<d.g))else M a30)=M (D1 (0<j/\((l[j-1]?).any λq=>D1 (l[j].g<q.g))=a29)):=by
    by_cases e:0<j
    .rw[J,m? U U,show((j:Int)-1)=((j-1:Nat):Int) by omega,Ma U,x! U]
     grind
    simp_all
   rw[ho,b?];by_cases g3:0<j/\((l[j-1]?).any λq=>D1 (l[j].g<q.g))=a29
   .rw[D2 g3,J (rfl:a29=a29),J g3,wY]
   rw[R1 g3,s7 p6,s7 g3];have hm:ZC l[j].d (aa .i64 ((Uq (QL (l.take j)) l[j].d).getD 0+XS l[j])) (QL (l.take j))=QL (l.take (j+1)):=by rw[we hj,jN]
   rw[nH,b?,hm,Mab,Ha U];by_cases e:HA l[j].d (l.take (j+1))<0
   all_goals simp_all[wY,if_neg,bE4]
  grind[qi]
 rw[this,b?];cases ff (IL l) l.length<;>rfl
theorem FM{l:List cb}(h:i<a00 l):IL l i=u4↔rk l[i]/\(∀_:0<i,l[i-1].g<=l[i].g)/\0<=HA l[i].d (l.take (i+1)):=by
 unfold IL rk;rw[x! h,x! (show i-1<a00 l by omega)]
 grind
theorem au7{l:List cb}{v:Int×Int}(h:IL l i=M v):v.2≠0:=by
 grind[IL]
theorem RF{l:List cb}:(if 4096<(a00 l:Int)then((4096,4):Int×Int)else(ff (IL l) l.length).getD (0,0)).2=0↔Pz l:=by
 unfold Pz;by_cases hl:4096<(a00 l:Int)
 .grind
 rw[s7 hl]
 cases h:ff (IL l) l.length with
 |none=>
  simp only[Option.getD_none,true_iff]
  grind[FM,Mb]
 |some v=>
  grind[Vb,au7,FM]
def UE(p:cb):Int:=if p.a=1 then p.ae else if p.a=2\/p.a=3 then -p.ae else 0
def AP(p:cb):Int:=if p.a=4 then p.ae else 0
def lh(f:cb->Int) (m:Int):List cb->Int
 |[]=>0
 |p::l=>(if p.d=m then f p else 0)+lh f m l
theorem Ay{f:cb->Int}{m:Int}:∀{a b:List cb},lh f m (a++b)=lh f m a+lh f m b
 |[],b=>by simp[lh]
 |p::a,b=>by simp only[List.cons_append,lh,Ay (a:=a)];omega
theorem BB{f:cb->Int}{m:Int}:∀{l:List cb},(∀p∈l,p.d≠m)->lh f m l=0
 |[],_=>rfl
 |p::l,h=>by
  rw[lh,s7 (h p p6),BB λq hq=>h q s5];rfl
theorem EK{f:cb->Int}:∀{l:List cb}{q:cb},(l.map (·.d)).Nodup->q∈l->lh f q.d l=f q
 |p::l,q,hn,hq=>by
  simp only[w?,dah]at hn;rcases X'.1 hq with rfl|hq
  .rw[lh,J rfl,BB λx hx he=>hn.1 (V!.2 ⟨x,hx,he⟩)];omega
  .rw[lh,s7 (λhe=>hn.1 (V!.2 ⟨q,hq,he.symm⟩)),EK hn.2 hq];omega
theorem P6(h:rk p):-1000000000000000<=UE p/\UE p<=1000000000000000:=by
 obtain⟨-,-,h,-⟩:=h
 grind[UE]
theorem NN(h:rk p):0<=AP p/\AP p<=1000000000000000:=by
 obtain⟨-,-,h,-⟩:=h
 grind[AP]
theorem DK{f:cb->Int}{m:Int}:∀{l:List cb},(∀p∈l,-1000000000000000<=f p/\f p<=1000000000000000)->-1000000000000000*(a00 l:Int)<=lh f m l/\lh f m l<=1000000000000000*(a00 l:Int)
 |[],_=>by simp[lh]
 |p::l,h=>by
  have ih:=DK (m:=m) λq hq=>h q (fah _ hq)
  grind[lh]
theorem bh0(h:rk p):XS p=UE p:=by
 obtain⟨-,-,h,-⟩:=h
 grind[XS,UE,m?]
theorem FR(c:cb->Prop) [DecidablePred c] (v f:cb->Int) (m:Int):∀(l:List cb),(a00 l<=8200)->(∀p∈l,-1000000000000000<=f p/\f p<=1000000000000000)->(∀p∈l,(if c p then v p else 0)=if p.d=m then f p else 0)->
 l.foldl (λs p=>if c p then aa .i64 (s+v p)else s) 0=lh f m l:=by
 intro l hl hb hc;have key:∀i,i<=a00 l->(l.take i).foldl (λs p=>if c p then aa .i64 (s+v p)else s) 0=lh f m (l.take i):=by
  intro i
  induction i with
  |zero=>intro _;rfl
  |succ i g=>
   intro hi;have a:l[i]∈l:=E' hi;have e:=DK (m:=m) (l:=l.take i) λq hq=>hb q (Xaf hq);have d:(l.take i).length=i:=s5
   rw[d]at e;have hbi:=hb _ a;have b:=hc _ a;rw[we hi,uah,g U,Ay];simp only[Yaf,fai,lh];rw[←b];by_cases h:c l[i]
   .rw[J h]at b;rw[J h,J h,m? U U];omega
   simp_all
 have:=key l.length (A' _)
 simp_all
theorem IA{l:List cb}(hl:l.length<=8200) (a:∀p∈l,rk p) (m:Int):HA m l=lh UE m l:=
 FR (λp=>p.d=m) XS UE m l hl (λp h=>P6 (a p h)) λp h=>by grind[bh0]
theorem eL{l:List cb}(hl:l.length<=8200) (a:∀p∈l,rk p) (m:Int):UW m l=lh AP m l:=
 FR (λp=>p.d=m/\p.a=4) (·.ae) AP m l hl (λp h=>by have:=NN (a p h);omega) λp h=>by
  grind[AP]
theorem Pz.post{l:List cb}(h:Pz l):∀p∈l,rk p:=by
 intro p a;obtain⟨i,hi,rfl⟩:=O' a;exact(h.2 i hi).1
theorem vz{m:Int}:∀{l:List cb},(∀p∈l,rk p)->0<=lh AP m l
 |[],_=>Dai _
 |p::l,h=>by
  have ih:=vz (m:=m) λq hq=>h q (fah _ hq);have:=NN (h p p6)
  grind[lh]
theorem oT{a b:List α}:(a++b).take (a00 a+i)=a++b.take i:=by
 rw[List.take_length_add_append]
theorem bZ7{l Q:List cb}(h:Pz l) (hd:∀p∈l,p.g<=d) (hq:∀q∈Q,rk q/\q.g=d) (hn:(Q.map (·.d)).Nodup) (hs:∀q∈Q,0<=lh UE q.d l+UE q) (hl:l.length+Q.length<=4096):Pz (l++Q):=by
 refine⟨p5,λi hi=>?_⟩;rw[G!]at hi;rcases Ο i l.length with k|k
 .obtain⟨a,b,c⟩:=h.2 i k
  grind
 .obtain⟨j,rfl⟩:∃j,i=a00 l+j:=⟨i-l.length,U⟩;have hj:j<Q.length:=U
  have e:(l++Q)[a00 l+j]=Q[j]:=p6
  rw[e];obtain⟨a,b⟩:=hq _ (E' hj);refine⟨a,λh0=>?_,?_⟩
  .grind
  .rw[show l.length+j+1=a00 l+(j+1) by omega,oT];have f:∀p∈l++Q.take (j+1),rk p:=by
    intro p g;rcases Ρ.1 g with g|g
    .exact h.post p g
    grind
   rw[IA s5 f,Ay];have hm:Q[j]∈Q.take (j+1):=by
    rw[we hj];grind
   grind[EK]
def Dx(a:ml):Prop:=0<=a.Id/\(0<=a.r/\a.r<a.To/\a.To<=3600/\a.To-a.r<=120)/\(0<=a.az/\a.az<=a.a3/\a.a3<=109572)/\(1<=a.av/\a.av<=6)/\(0<=a.ae/\a.ae<=1000000000000000)/\(a.ae=0\/a.av=3)
instance (a:ml):Decidable (Dx a):=by unfold Dx;infer_instance
theorem zC(a b:Int):Pe a b=M (D1 (0<=a/\a<b/\b<=3600/\b-a<=120)):=by
 grind[Pe,m?]
theorem wI(a:ml):br a=M (D1 (Dx a)):=by
 unfold br Dx;rw[zC];by_cases j:a.Id<0
 .grind
 have b:0<=a.Id:=U
 by_cases h2:0<=a.r/\a.r<a.To/\a.To<=3600/\a.To-a.r<=120
 case neg=>grind
 by_cases k:a.az<0
 .grind
 have e:0<=a.az:=U
 by_cases l:a.a3<a.az
 .grind
 have f:a.az<=a.a3:=U
 by_cases m:109572<a.a3
 .grind
 have g:a.a3<=109572:=U
 by_cases n:a.av<1
 .grind
 have h:1<=a.av:=U
 by_cases o:6<a.av
 .grind
 have i:a.av<=6:=U
 by_cases p:0<=a.ae<;>by_cases q:a.ae<=1000000000000000<;>by_cases c:a.ae=0<;>by_cases d:a.av=3<;>simp[j,h2,k,l,m,n,o,b,e,f,g,h,i,p,q,c,d]
def Xq(c:kv) (m:Int):Prop:=c.aj<=m/\m<=min 3599 (aa .i64 (aa .i64 (c.aj+120)-1))
instance (c:kv) (m:Int):Decidable (Xq c m):=by unfold Xq;infer_instance
theorem XF(c:kv) (m:Int):Ri c m=M (D1 (Xq c m)):=by
 unfold Ri Xq
 grind
theorem GJ(d:Int):wk d=M (D1 (0<=d/\d<=109572)):=by
 grind[wk]
structure q! (l:ej) (c:kv) (t:ic):Prop where
 cf:Qa l t.j.Scope c=M 0
 hv:(hhV l t.j).2=0
 date:0<=t.g/\t.g<=109572
 last:t.ag = -1\/Xq c t.ag
 led:Pz t.u
 mon:∀p∈t.u,xL c t p.d=a30
 jY:t.af.length<=16
 app:∀i (h:i<a00 t.af),Dx t.af[i]/\t.af[i].Id=(i:Int)
 late:ZM t=a30
theorem ZN{t:ic}(h3:t.af.length<=1048576):ja (mh t) 0=M (Aj () (ff (λi=>match t.af[i]? with|some a=>if Dx a/\a.Id=(i:Int)then u4 else M (13:Int)|none=>u4) t.af.length)):=by
 refine Ji (λi=>(i:Int)) _ t.af.length () (λi hi _=>?_) (λ_=>?_)
 .unfold mh;rw[J,Ma hi,b?,wI,x! hi,b?]
  grind[qL,Ha]
 grind[mh]
theorem Lv{l:ej}(hl:p? l) {c:kv}(hc:c.am.al.length<=1048576) {t:ic}(w:t.j.ab.length<=1048576) (h2:t.u.length<=1048576) (s:t.af.length<=1048576) :
 ∃n,Jh l c t=M n/\(n=0↔q! l c t):=by
 obtain⟨n,x⟩:=FQ hl hc t.j.Scope;unfold Jh;rw[x,Mg l t.j hl.ns];simp only[b?];by_cases j:n=0
 case neg=>
  rw[J j];refine⟨1,rfl,p6,λh=>absurd ?_ j⟩;have:=h.cf
  simp_all
 rw[s7 (E!.2 j)];by_cases hv:(hhV l t.j).2=0
 case neg=>rw[J hv];exact⟨_,rfl,λh=>absurd h hv,λh=>absurd h.hv hv⟩
 rw[s7 (E!.2 hv),GJ,XF,b?];have hd:(e? (α:=Bool) (if D1 (0<=t.g/\t.g<=109572)=a29 then if¬t.ag = -1 then(M (D1 (Xq c t.ag))).bind λy=>M (!y)else M a30 else M a29) λb=>M b)=M (D1 (¬((0<=t.g/\t.g<=109572)/\(t.ag = -1\/Xq c t.ag)))):=by
  by_cases a1:0<=t.g/\t.g<=109572<;>by_cases a2:t.ag = -1<;>by_cases a3:Xq c t.ag<;>simp[a1,a2,a3]
 rw[show∀o:Option Bool,(e? o λb=>M b)=o from λo=>p6]at hd;rw[hd,b?];by_cases a:(0<=t.g/\t.g<=109572)/\(t.ag = -1\/Xq c t.ag)
 case neg=>
  rw[D2 a,J (rfl:a29=a29)];exact⟨3,rfl,p6,λh=>absurd ⟨h.date,h.last⟩ a⟩
 rw[R1 (E!.2 a),s7 p6,pE,b?];by_cases d:Pz t.u
 case neg=>
  rw[J (λe=>d (RF.1 e))];exact⟨_,rfl,λe=>absurd (RF.1 e) d,λh=>absurd h.led d⟩
 rw[s7 (E!.2 (RF.2 d))];have k:=Vx (t.u.map (·.d));rw[List.length_map]at k;rw[Xab h2,b?,CS h2 U,yU,b?];by_cases hm:(t.u.any λp=>xL c t p.d)=a29
 .rw[J hm];refine⟨3,rfl,p6,λh=>?_⟩;obtain⟨p,q,r⟩:=xai.1 hm;rw[h.mon p q]at r;grind
 rw[s7 hm];dsimp only;have m:∀p∈t.u,xL c t p.d=a30:=λp d=>by
  simp_all
 by_cases ha:16<(a00 t.af:Int)
 .rw[J ha];exact⟨4,rfl,p6,λh=>by have:=h.jY;omega⟩
 rw[s7 ha,ZN s,b?]
 cases hf:ff (λi=>match t.af[i]? with|some a=>if Dx a/\a.Id=(i:Int)then u4 else M (13:Int)|none=>u4) t.af.length with
 |some v=>
  obtain⟨i,u,g,-⟩:=Vb.1 hf;rw[x! u]at g;dsimp only at g;split at g
  .grind
  .rename_i hx;obtain rfl:=R' g;exact⟨13,rfl,p6,λh=>absurd (h.app i u) hx⟩
 |none=>
  simp only[TV];have f:∀i (h:i<a00 t.af),Dx t.af[i]/\t.af[i].Id=(i:Int):=λi hi=>by
   grind[Mb]
  rw[qab w h2 s,b?]
  cases hb:ZM t with
  |true=>exact⟨9,rfl,p6,λh=>by have:=h.late;simp_all⟩
  |false=>exact⟨0,rfl,λ_=>⟨p5,hv,a.1,a.2,d,m,U,f,hb⟩,λ_=>rfl⟩
structure Y? (b:oe):Prop where
 due:0<=b.bd/\b.bd<=1000000000000000
 rcv:0<=b.a4/\b.a4<=1000000000000000
 wai:0<=b.bc/\b.bc<=1000000000000000
 mon:0<=b.d/\b.d<=3599
variable {b:oe}
def HC(b:oe):Int:=max (b.bd-b.a4) 0
def uu(b:oe):Int:=max (b.a4-b.bd-b.bc) 0
theorem bM6(h:Y? b):qm b=M (HC b):=by
 obtain⟨h1,h2,h3,h4⟩:=h
 grind[qm,HC,m?]
theorem yS(h:Y? b):Qd b=M (uu b):=by
 obtain⟨h1,h2,h3,h4⟩:=h
 grind[Qd,uu,m?]
theorem aG7(h:Y? b):0<=HC b/\HC b<=1000000000000000:=by
 obtain⟨h1,h2,h3,h4⟩:=h
 grind[HC]
theorem aB5(h:Y? b):0<=uu b/\uu b<=1000000000000000:=by
 obtain⟨h1,h2,h3,h4⟩:=h
 grind[uu]
def Zv(to d:Int) (l:List oe):List cb:=l.filterMap λb=>if b.d<=to/\0<HC b then M ⟨d,b.d,1,HC b⟩else u4
def PA(l:List cb):Int:=(l.map (·.ae)).sum
theorem Pad{a b:List cb}:PA (a++b)=PA a+PA b:=by simp[PA]
def Tq(kind d:Int) (om:Int->Bool):Int->List oe->List cb×Int
 |rem,[]=>([],rem)
 |rem,b::bs=>if 0<rem then(if uu b<=0\/om b.d=a29 then Tq kind d om rem bs else(⟨d,b.d,kind,min (uu b) rem⟩::(Tq kind d om (rem-min (uu b) rem) bs).1,(Tq kind d om (rem-min (uu b) rem) bs).2))else([],rem)
theorem BE{to:Int}{l:List oe}:(Zv to d l).length<=a00 l:=List.length_filterMap_le _ _
theorem iK{to d:Int}:∀{l:List oe},(∀b∈l,Y? b)->0<=PA (Zv to d l)/\PA (Zv to d l)<=1000000000000000*(a00 l:Int)
 |[],_=>by simp[Zv,PA]
 |b::l,h=>by
  have ih:=iK (to:=to) (d:=d) (l:=l) λx hx=>h x s5;have hb:=aG7 (h b p6)
  grind[Zv,PA]
theorem vZ{x:α}{l:List α}:jC (x::l) 1=M l:=by
 have:=wZ (l:=x::l) (i:=1) p6
 simp_all
theorem ar0{x:α}{l:List α}:e! (x::l) 0=M x:=by
 have:=Ma (l:=x::l) (i:=0) p6
 simp_all
theorem ZF{d:Int}{c:List (Int×Bool)}:∀{l:List oe}{rem:Int}{acc:List cb},(∀b∈l,Y? b)->acc.length+a00 l<=1048576->0<=rem/\rem<9223372036854775807->
 ja (qg d c) (rem,acc,l)=M (.inl ((Tq 2 d (λm=>(Uq c m).getD a30) rem l).2,acc++(Tq 2 d (λm=>(Uq c m).getD a30) rem l).1))
 |[],rem,acc,_,_,_=>by
  grind[Tq,qg,Gb]
 |b::l,rem,acc,hb,hl,hr=>by
  have a:=hb b p6;have ho:=aB5 a;simp only[w!]at hl;by_cases e:0<rem
  case neg=>
   grind[Tq,qg,Gb]
  rw[Tq,J e];by_cases hc:uu b<=0\/(Uq c b.d).getD a30=a29
  .rw[J hc];rw[Gc (s':=(rem,acc,l)) ?_,ZF (λx hx=>hb x s5) U hr];unfold qg;simp only[w!,ar0,b?,yS a,vZ]
   grind
  .rw[s7 hc];have hc':=not_or.1 hc;rw[Gc (s':=(rem-min (uu b) rem,acc++[⟨d,b.d,2,min (uu b) rem⟩],l)) ?_,ZF (λx hx=>hb x s5) s5 U]
   .simp
   .unfold qg;simp only[w!,ar0,b?,yS a,vZ];rw[J,b?,D2 e,J (rfl:a29=a29),Lf s5,m? U U]
    simp_all
theorem iD{d:Int}:∀{l:List oe}{rem:Int}{acc:List cb},(∀b∈l,Y? b)->acc.length+a00 l<=1048576->0<=rem/\rem<9223372036854775807->
 ja (Af d) (rem,acc,l)=M (.inl ((Tq 3 d (λ_=>a30) rem l).2,acc++(Tq 3 d (λ_=>a30) rem l).1))
 |[],rem,acc,_,_,_=>by
  grind[Tq,Af,Gb]
 |b::l,rem,acc,hb,hl,hr=>by
  have a:=hb b p6;have ho:=aB5 a;simp only[w!]at hl;by_cases c:0<rem
  case neg=>
   grind[Tq,Af,Gb]
  rw[Tq,J c];by_cases e:uu b<=0
  .rw[J (.inl e)];rw[Gc (s':=(rem,acc,l)) ?_,iD (λx hx=>hb x s5) U hr];unfold Af;simp only[w!,ar0,b?,yS a,vZ]
   simp_all
  .rw[s7 s5];rw[Gc (s':=(rem-min (uu b) rem,acc++[⟨d,b.d,3,min (uu b) rem⟩],l)) ?_,iD (λx hx=>hb x s5) s5 U]
   .simp
   .unfold Af;simp only[w!,ar0,b?,yS a,vZ];rw[J,b?,D2 c,J (rfl:a29=a29),Lf s5,m? U U]
    grind
theorem Ov{kind d:Int}{om:Int->Bool}:∀{l:List oe}{rem:Int}{q:cb},q∈(Tq kind d om rem l).1->∃b∈l,q.d=b.d/\q.g=d/\q.a=kind/\1<=q.ae/\q.ae<=uu b/\om b.d=a30
 |[],rem,q,h=>by grind[Tq]
 |b::l,rem,q,h=>by
  rw[Tq]at h;by_cases a:0<rem
  case neg=>simp_all
  rw[J a]at h;by_cases hc:uu b<=0\/om b.d=a29
  .rw[J hc]at h;obtain⟨x,hx,r⟩:=Ov h
   grind
  .rw[s7 hc]at h;rcases X'.1 h with rfl|h
   .grind
   .obtain⟨x,hx,r⟩:=Ov h
    grind
theorem Ky{kind d:Int}{om:Int->Bool}:∀{l:List oe}{rem:Int},(l.map (·.d)).Nodup->((Tq kind d om rem l).1.map (·.d)).Nodup
 |[],rem,_=>by simp[Tq]
 |b::l,rem,h=>by
  simp only[w?,dah]at h;rw[Tq];by_cases a:0<rem
  case neg=>grind
  rw[J a];by_cases hc:uu b<=0\/om b.d=a29
  .rw[J hc];exact Ky h.2
  .rw[s7 hc];simp only[w?,dah];refine⟨λhm=>?_,Ky h.2⟩
   grind[Ov]
theorem Ux{kind d:Int}{om:Int->Bool}:∀{l:List oe}{rem:Int},(Tq kind d om rem l).1.length<=a00 l
 |[],rem=>by simp[Tq]
 |b::l,rem=>by
  rw[Tq];by_cases a:0<rem
  case neg=>grind
  rw[J a];by_cases hc:uu b<=0\/om b.d=a29
  .rw[J hc];have:=Ux (kind:=kind) (d:=d) (om:=om) (l:=l) (rem:=rem)
   grind
  .rw[s7 hc];have:=Ux (kind:=kind) (d:=d) (om:=om) (l:=l) (rem:=rem-min (uu b) rem)
   simp_all
theorem AS{to:Int}{l:List oe}(h:q∈Zv to d l):∃b∈l,q.d=b.d/\q.g=d/\q.a=1/\q.ae=HC b/\0<HC b/\b.d<=to:=by
 obtain⟨b,hb,h⟩:=List.mem_filterMap.1 h
 grind
theorem XV{to:Int}:∀{l:List oe},(l.map (·.d)).Nodup->((Zv to d l).map (·.d)).Nodup
 |[],_=>by simp[Zv]
 |b::l,h=>by
  grind[Zv]
def upB(m:Int) (a:ml):Bool:=D1 (a.av=3/\a.r<=m/\m<a.To)
def ML(A:List ml) (m:Int):Option Int:=(A.reverse.find? (upB m)).map (·.ae)
theorem D4(hl:A.length<=1048576) (m:Int):so A m=M (match ML A m with|some c=>(c,a29)|none=>(0,a30)):=by
 have key:∀k,k<=a00 A->ja (Xg A m) ((k:Int)-1)=M (match ((A.take k).reverse.find? (upB m)).map (·.ae)with|some c=>.inr (c,a29)|none=>.inl ()):=by
  intro k
  induction k with
  |zero=>
   intro _;refine(Gb (b:=()) ?_).trans rfl;simp[Xg]
  |succ k ih=>
   intro hk;have a:Xg A m (((k+1:Nat):Int)-1)=M (if upB m A[k]=a29 then .ret (A[k].ae,a29)else .go ((k:Int)-1)):=by
    unfold Xg;rw[J,show((k+1:Nat):Int)-1=((k:Nat):Int) by omega,Ma hk,b?,m? U U]
    grind[upB]
   rw[we hk,List.reverse_append,List.reverse_singleton,List.singleton_append,List.find?_cons]
   cases hu:upB m A[k]with
   |true=>
    rw[hu,J rfl]at a
    grind[ep]
   |false=>
    rw[hu,s7 p6]at a
    grind[Gc]
 have:=key A.length (A' _)
 grind[so,ML,m?]
def iH(A:List ml) (w:nb):nb:=match ML A w.d with|some c=>⟨w.d,c,0⟩|none=>w
theorem ay3(hl:A.length<=1048576) {l:List nb}(hn:l.length<=1048576):Fj l A=M (l.map (iH A)):=by
 unfold Fj;have:ja (Xi l A) (([]:List nb),0)=M (.inl (l.map (iH A))):=by
  refine lf (λi=>((l.take i).map (iH A),(i:Int))) l.length _ (λi hi=>?_) ?_ rfl
  .unfold Xi;dsimp only;rw[J,Ma hi,b?,D4 hl,b?];have hlen:((l.take i).map (iH A)).length=i:=s5
   have a:(e? (α:=Int×Int) (if(match ML A l[i].d with|some c=>((c,a29):Int×Bool)|none=>(0,a30)).2=a29 then M ((match ML A l[i].d with|some c=>((c,a29):Int×Bool)|none=>(0,a30)).1,0)else M (l[i].ae,l[i].Code)) λx=>M (nb.mk l[i].d x.1 x.2))=M (iH A l[i]):=by
    unfold iH;cases ML A l[i].d<;>simp
   rw[we hi,ψ]
   cases h:ML A l[i].d with
   |some c=>
    rw[h]at a;simp only[B?,b?]at a⊢;rw[Lf s5,b?,Ha U,w?,D!,R' a]
   |none=>
    rw[h]at a;simp only[M',G1,b?]at a⊢;rw[Lf s5,b?,Ha U,w?,D!,R' a]
  grind[Xi]
 simp_all
noncomputable def Ls(l:ej) (c:kv) (t:ic) (to rec:Int):List oe:=(s? (to+1-c.aj).toNat).map λ(j:Nat)=>Ks t.u (iH t.af (xI l t.j c (c.aj+j) rec))
theorem Gy:(Ks P w).d=w.d:=rfl
theorem QC:(iH A w).d=w.d:=by
 grind[iH]
theorem qQ{l:ej}{c:kv}{t:ic}{to:Int}:(Ls l c t to rec).map (·.d)=(s? (to+1-c.aj).toNat).map λ(j:Nat)=>c.aj+(j:Int):=by
 simp_all[Ls,Gy,QC,xF]
theorem UG(a:Int) (n:Nat):((s? n).map λ(j:Nat)=>a+(j:Int)).Nodup:=by
 grind[List.pairwise_lt_range]
theorem Is{l:ej}(hl:p? l) (a:M! l) {t:ic}(hh:t.j.ab.length<=64) {c:kv}(hc:c.am.al.length<=1048576) (d:t.u.length<=1048576) (ha:t.af.length<=1048576) {to:Int}(hf:0<=c.aj) (ht:to<c.aj+120) (rec:Int) :
 qb l c t to rec=M (if to<c.aj\/3599<to then []else Ls l c t to rec):=by
 unfold qb;rw[orQ];by_cases h:to<c.aj\/3599<to
 .simp_all
 rw[R1 h,s7 p6,s7 h,m? U U,VP hl a hh hc U rec,b?];have hn:(to+1-c.aj).toNat<=120:=U
 rw[s7 s5,ay3 ha s5,b?];unfold On;have b:(((s? (to+1-c.aj).toNat).map λ(j:Nat)=>xI l t.j c (c.aj+j) rec).map (iH t.af)).map (λw=>w.d)=(s? (to+1-c.aj).toNat).map λ(j:Nat)=>c.aj+(j:Int):=by
  simp_all[QC,xF]
 rw[J ⟨s5,d,by rw[b];simp[UG]⟩,b?];simp only[List.map_map];rfl
theorem QA{f:cb->Int}{m:Int}:∀{l:List cb},lh f m (l.filter λp=>p.d==m)=lh f m l
 |[]=>rfl
 |p::l=>by
  rw[yai];by_cases h:p.d=m
  .simp only[h,beq_self_eq_true,B?,lh,QA (l:=l)]
  .simp only[T!,h,G1,lh,QA (l:=l)];omega
theorem ad5(m:Int) (l:List cb):v7 m l=UW m l:=by
 grind[v7,UW,yaj]
theorem ax9(h:Pz P) (w:nb):(Ks P w).a4=lh UE w.d P/\(Ks P w).bc=lh AP w.d P:=by
 have hf:∀p∈P.filter (λp=>p.d==w.d),rk p:=λp a=>h.post p (List.mem_filter.1 a).1;have hl:(P.filter λp=>p.d==w.d).length<=8200:=Lag (List.length_filter_le _ _) (by have:=h.1;omega)
 grind[Ks,lZ,IA,QA,ad5,eL]
theorem lW(h:Pz P) (m:Int):0<=lh UE m P:=by
 have key:∀k,k<=a00 P->0<=lh UE m (P.take k):=by
  intro k
  induction k with
  |zero=>intro _;exact Dai _
  |succ k ih=>
   intro hk;by_cases hm:P[k].d=m
   .have:=(h.2 k hk).2.2;rw[hm,IA (by rw[U'];have:=h.1;omega) (λp a=>h.post p (Xaf a))]at this;omega
   .rw[we hk,Ay]
    grind[lh]
 have:=key P.length (A' _)
 simp_all
theorem mX{c:kv}{t:ic}(h:xL c t m=a30):c.aj<=m/\m<=t.ag/\HA m t.u<=1000000000000000/\UW m t.u<=1000000000000000:=by
 simp_all[xL]
theorem mZ{l:ej}{c:kv}{t:ic}(h:q! l c t) (m:Int):lh UE m t.u<=1000000000000000/\lh AP m t.u<=1000000000000000:=by
 by_cases he:∃p∈t.u,p.d=m
 .obtain⟨p,b,rfl⟩:=he;obtain⟨-,-,a,h2⟩:=mX (h.mon p b);have hl:t.u.length<=8200:=by have:=h.led.1;omega
  rw[IA hl h.led.post]at a;rw[eL hl h.led.post]at h2;omega
 grind[BB]
theorem ar6{x:Int}(h:ML A m=M x):∃a∈A,a.ae=x:=by
 unfold ML at h;obtain⟨a,ha,rfl⟩:=Option.map_eq_some_iff.1 h
 grind
theorem F0{l:ej}(hl:p? l) (b:M! l) {h:na}(hh:h.ab.length<=64) {c:kv}(hc:c.am.al.length<=1048576) :0<=(xI l h c m rec).ae/\(xI l h c m rec).ae<=1000000000000000:=by
 by_cases a:(xI l h c m rec).Code=0
 case neg=>
  have:(xI l h c m rec).ae=0:=by
   unfold xI at a⊢;split
   .rfl
   .rename_i j;rw[s7 j]at a;split
    all_goals simp_all[ay5]
  omega
 obtain⟨f,g,k3⟩:=c9 a;obtain⟨v,o,q⟩:=qI hl (λx hx=>Lag (b.s x hx) s6) (h:=h) U (c:=c) hc;rw[o,Option.getD_some]at g;obtain⟨i,H⟩:=q g;have hi:h.Scope.toNat=i:=by have:=H.sc;omega
 rw[hi]at k3;rw[k3]at a⊢;dsimp only at a⊢;obtain⟨c1,-⟩:=YF (l:=l) (h:=h) (rec:=rec) f b hh;obtain⟨d2,d3,d4,d5⟩:=TY f;obtain⟨a1,a2⟩:=bb3 a;rw[a2];generalize Z7 l h m rec=P at *;have hds:=(Qs c1).1;have e:∀p∈P,-1000000000000000<=(gh l i h c.ac rec p.r).1.N/\(gh l i h c.ac rec p.r).1.N<=1000000000000000:=λp n=>CE H rec p.r (a1 p n);obtain⟨t,u⟩:=dF (v:=λd=>(gh l i h c.ac rec d).1.N) c1 e;have k:1<=fu P/\fu P<=31:=U
 have:=JQ (mode:=c.a1) k H.cf.r U t u;omega
theorem q!.appeals{l:ej}{c:kv}{t:ic}(h:q! l c t):∀a∈t.af,Dx a:=by
 intro a ha;obtain⟨i,hi,rfl⟩:=O' ha;exact(h.app i hi).1
theorem bM5{l:ej}(hl:p? l) (hfr:M! l) {t:ic}(hh:t.j.ab.length<=64) {c:kv}(hc:c.am.al.length<=1048576) (ht:q! l c t) {to:Int}(hf:0<=c.aj) (hto:to<=3599):∀b∈Ls l c t to rec,Y? b/\b.a4=lh UE b.d t.u/\b.bc=lh AP b.d t.u/\c.aj<=b.d/\b.d<=to:=by
 intro b hb;obtain⟨j,hj,rfl⟩:=V!.1 hb;obtain⟨w,hw⟩:∃w,w=iH t.af (xI l t.j c (c.aj+j) rec):=⟨_,rfl⟩;rw[←hw];have hm:w.d=c.aj+j:=by grind[QC,xF]
 have hjl:=List.mem_range.1 hj;obtain⟨e,f⟩:=ax9 ht.led w;have h1:=lW ht.led w.d;have h2:=mZ ht w.d;have h3:=vz (m:=w.d) ht.led.post;refine⟨⟨?_,U,U,by grind[Gy]⟩,e,f,by grind[Gy],by grind[Gy]⟩;have hd:(Ks t.u w).bd=if w.Code=0 then w.ae else(Ks t.u w).a4:=rfl;rw[hd];split
 .rw[hw];unfold iH
  cases d:ML t.af (xI l t.j c (c.aj+j) rec).d with
  |none=>simp_all[F0]
  |some x=>
   obtain⟨a,ha,rfl⟩:=ar6 d;exact(ht.appeals a ha).2.2.2.2.1
 omega
theorem AW{q:List Int}{t:Int}(hl:q.length<=1048576):∃r,ab q t=M r:=by
 unfold ab;obtain⟨b,a,k,rfl,h2⟩:=JY (step:=Hb q t) (λs=>∃i j:Nat,s=((i:Int),(j:Int))/\i<=j/\j<=a00 q) (λs=>(s.2-s.1).toNat) (λb=>∃k:Nat,b=(k:Int)/\k<=a00 q) (by
  rintro s ⟨i,j,rfl,a1,a2⟩;unfold Hb;dsimp only;by_cases hij:i<j
  .left;rw[J,mid U,Ma (show(i+j) / 2<a00 q by omega),b?,FI,b?];by_cases hx:q[(i+j) / 2]' U<t
   .exact⟨_,by rw[J s5,Ha U],⟨(i+j) / 2+1,j,rfl,U,a2⟩,U⟩
   .exact⟨_,s5,⟨i,(i+j) / 2,rfl,U,U⟩,U⟩
  grind) q.length (0,(a00 q:Int)) p6 ⟨0,a00 q,rfl,U,U⟩
 rw[a,b?];dsimp only;unfold Uh;by_cases hk:k<a00 q
 .rw[J,Ma hk,b?];by_cases he:q[k]=t<;>simp[he]
 simp_all[if_neg]
theorem ON{c:ve}(hc:c.al.length<=1048576) (hd:0<=d/\d<=109572):∃b,Ih c d=M b:=by
 unfold Ih dr;rw[Kl,b?,D2 hd,s7 p6,b?];unfold Ead;rw[s7 s5,b?];split
 .simp
 .obtain⟨r,hr⟩:=AW (t:=d) hc
  simp_all
theorem YY{c:ve}(hc:c.al.length<=1048576) {d0 n0:Int}(hd:0<=d0/\d0<=109573):∃r,Pq c d0 n0=M r/\(r.2=0->d0<=r.1/\r.1<=109572):=by
 unfold Pq;rcases Rw (s:=Ur c) (λx=>d0<=x.1/\x.1<=109573) (λx=>(109573-x.1).toNat) (λ_=>True) (λr=>r.2=0->d0<=r.1/\r.1<=109572) (by
  rintro⟨a,b⟩ ⟨e,h2⟩;dsimp only at e h2;unfold Ur;dsimp only;by_cases h:a<=109572
  .rw[J h];obtain⟨w,hw⟩:=ON hc (d:=a) ⟨U,h⟩;rw[hw,b?]
   cases w with
   |false=>
    refine .inl ⟨_,rfl,?_,?_⟩<;>dsimp only<;>rw[m? U U]<;>omega
   |true=>
    rw[s7 p6];by_cases f:aa .i64 (b-1)=0
    .simp_all
    .rw[s7 f];refine .inl ⟨_,rfl,?_,?_⟩<;>dsimp only<;>rw[m? U U]<;>omega
  .rw[s7 h];simp) (x:=(d0,n0)) ⟨p6,hd.2⟩with⟨b,e,-⟩|⟨r,e,h2⟩
 all_goals simp_all
theorem FZ(d:Int):Pb d=M (D1 (0<=d/\d<=109572)):=by
 grind[Pb]
theorem aA7{c:ve}(hc:c.al.length<=1048576) (hd:0<=d/\d<=109572):∃r,Gu c d n=M r/\(r.2=0->d<=r.1/\r.1<=109572):=by
 obtain⟨v,hv⟩:=vQ hc;unfold Gu;rw[hv,b?]
 cases v with
 |false=>simp
 |true=>
  rw[s7 p6,FZ,b?,D2 hd,J (rfl:a29=a29),orQ];by_cases hn:n<0\/365<n
  .simp_all
  rw[R1 hn,s7 p6];by_cases a:n=0
  .rw[J a];unfold Av;rw[hv,b?,s7 p6,FZ,b?,D2 hd,s7 p6];obtain⟨r,b,h2⟩:=YY hc (d0:=d) (n0:=1) ⟨hd.1,U⟩
   simp_all
  .rw[s7 a,m? U U];obtain⟨r,b,h2⟩:=YY hc (d0:=d+1) (n0:=n) U
   grind
theorem SR{c:ve}(hc:c.al.length<=1048576) (hd:0<=d/\d<=109572):∃r,xk c d n=M r/\d<=r/\r<=109572:=by
 obtain⟨r,a,h2⟩:=aA7 hc (n:=n) hd;unfold xk;rw[a,b?];by_cases h0:r.2=0
 all_goals simp_all
theorem lQ(d:Int):zh d=M (D1 (0<=d/\d<=109572)):=by
 grind[zh]
theorem bd5{c:kv}(hc:c.am.al.length<=1048576) (id a b d n:Int):∃r,bu id a b d n c=M r/\(r.2=0->Dx r.1/\r.1.Id=id/\r.1.az=d):=by
 unfold bu;have hj:(e? (α:=Bool) (if¬id<0 then(zh d).bind λs=>if s=a29 then(zh n).bind λt=>if t=a29 then(Pe a b).bind λu=>M (!u)else M a29 else M a29 else M a29) λx=>M x)=M (D1 (¬(0<=id/\(0<=d/\d<=109572)/\(0<=n/\n<=109572)/\(0<=a/\a<b/\b<=3600/\b-a<=120)))):=by
  rw[lQ,lQ,zC];by_cases l:id<0
  .simp_all
  have e:0<=id:=U
  by_cases h2:0<=d/\d<=109572<;>by_cases m:0<=n/\n<=109572<;>by_cases p:0<=a/\a<b/\b<=3600/\b-a<=120<;>simp[l,e,h2,m,p]
 rw[show∀o:Option Bool,(e? o λb=>M b)=o from λo=>p6]at hj;rw[hj,b?];by_cases h:0<=id/\(0<=d/\d<=109572)/\(0<=n/\n<=109572)/\(0<=a/\a<b/\b<=3600/\b-a<=120)
 case neg=>
  simp_all
 rw[R1 (E!.2 h),s7 p6];by_cases k:d<n
 .simp_all
 rw[s7 k];obtain⟨v,hv⟩:=vQ hc;obtain⟨j,f⟩:∃j,(e? (tc c.am) λg=>if g=a29 then if¬c.a7<0 then M (D1 (365<c.a7))else M a29 else M a29)=M j:=by
  grind
 rw[f,b?]
 cases j with
 |true=>
  simp
 |false=>
  rw[s7 p6];obtain⟨q,g1,-⟩:=SR hc (n:=c.a7) h.2.2.1;obtain⟨r2,g2,g3⟩:=SR hc (n:=60) h.2.1;rw[g1,b?,g2,b?];by_cases i:q<d
  .rw[J i,b?];exact⟨_,rfl,λ_=>⟨⟨h.1,h.2.2.2,⟨h.2.1.1,Dai _,h.2.1.2⟩,p6,p6,.inl rfl⟩,rfl,rfl⟩⟩
  .rw[s7 i,b?];exact⟨_,rfl,λ_=>⟨⟨h.1,h.2.2.2,⟨h.2.1.1,g3⟩,p6,p6,.inl rfl⟩,rfl,rfl⟩⟩
theorem BS(a b:Int):∃r,zk a b=M r/\(r=a29->2<=b/\b<=5):=by
 unfold zk;by_cases c:a=1<;>by_cases h2:a=2<;>by_cases d:b=2<;>by_cases e:b=4<;>by_cases f:b=3<;>by_cases g:b=5<;>simp[c,h2,d,e,f,g]
theorem RN{a:ml}(ha:Dx a) (s c d:Int):∃r,bj a s c d=M r/\(r.2=0->Dx r.1/\r.1.Id=a.Id/\r.1.az=a.az):=by
 unfold bj;obtain⟨p,l,m⟩:=BS a.av s;rw[l,b?]
 cases p with
 |false=>simp
 |true=>
  have hs:=m rfl;rw[s7 p6];by_cases f:d<a.az
  .simp_all
  rw[s7 f];obtain⟨j,hj⟩:∃j,(if a.a3<d then if¬s=2 then M (s==3)else M a29 else M a30)=M j:=by
   grind
  rw[hj,b?]
  cases j with
  |true=>simp
  |false=>
   rw[s7 p6];have hk:(if¬c<0 then if¬1000000000000000<c then if¬c=0 then M (s !=3)else M a30 else M a29 else M a29)=M (D1 (¬((0<=c/\c<=1000000000000000)/\(c=0\/s=3)))):=by
    by_cases h2:c<0
    .simp_all
    have b:0<=c:=U
    by_cases g:1000000000000000<c
    .simp_all
    have e:c<=1000000000000000:=U
    by_cases i:c=0<;>by_cases k:s=3<;>simp[h2,g,b,e,i,k]
   rw[hk,b?];by_cases h:(0<=c/\c<=1000000000000000)/\(c=0\/s=3)
   case neg=>simp_all
   rw[R1 (E!.2 h),s7 p6];obtain⟨a1,a2,a3,a4,a5,a6⟩:=ha;exact⟨_,rfl,λ_=>⟨⟨a1,a2,a3,s5,h.1,h.2⟩,rfl,rfl⟩⟩
theorem Wz{l:ej}{sc:Int}{c:kv}(hv:Qa l sc c=M 0):(0<=c.aj/\c.aj<=3599)/\0<=c.a5/\c.a5<=1000000000000000:=by
 unfold Qa at hv;obtain⟨x1,-,hv⟩:=Uj hv;split at hv
 .grind
 obtain⟨x2,-,hv⟩:=Uj hv;split at hv
 .grind
 obtain⟨x3,-,hv⟩:=Uj hv;obtain⟨x4,-,hv⟩:=Uj hv;split at hv
 .grind
 obtain⟨x5,-,hv⟩:=Uj hv
 grind
theorem bm0{c:kv}(hc:0<=c.a5/\c.a5<=1000000000000000) {s:Int}(hs:0<=s/\s<=200000000000000000):∃x,xf s c=M x/\0<=x/\x<=200000000000000000:=by
 unfold xf uq;by_cases h:s<1
 .simp_all
 rw[s7 h,zA];simp only[b?];split
 .simp
 .rw[m? U U]
  grind
theorem dT(hl:A.length<=1048576):∃r,Jb A=M r/\r.length<=3600:=by
 unfold Jb;have hm:uz 8 (0:Int) 3601 3601=M (h! 3601 0):=UF (n:=3601) U U;rw[hm,b?];rcases Rw (s:=Df A) (λx=>x.1.length=3601/\∃j:Nat,x.2=(j:Int)/\j<=a00 A) (λx=>(a00 A-x.2).toNat) (λb=>b.length=3601) (λ_=>False) (by
  rintro⟨L,i⟩ ⟨a,j,h2,e⟩;dsimp only at a h2;subst h2;unfold Df;dsimp only;by_cases hj:j<a00 A
  .rw[J,Ma hj,b?];obtain⟨b,hb⟩:∃b,(if¬A[j].av=1 then M (A[j].av !=2)else M a30)=M b:=by split<;>exact⟨_,rfl⟩
   rw[hb,b?,Ha U]
   cases b with
   |true=>exact .inl ⟨_,rfl,⟨a,j+1,rfl,hj⟩,U⟩
   |false=>
    rw[s7 p6];by_cases hf:max A[j].r 0<min A[j].To 3600
    .rw[J hf];have e1:e! L (max A[j].r 0)=M (L[(max A[j].r 0).toNat]' U):=mn U U;rw[e1,b?];have e2:∀x,put L (max A[j].r 0) x=M (L.set (max A[j].r 0).toNat x):=λx=>by grind[put]
     rw[e2,b?];have e3:∀n6:List Int,a00 n6=3601->∃y,e! n6 (min A[j].To 3600)=M y:=λn6 f=>⟨_,mn U U⟩;obtain⟨y,g⟩:=e3 (L.set (max A[j].r 0).toNat (aa .i64 (L[(max A[j].r 0).toNat]' U+1))) p5;rw[g,b?];have e4:∀(n6:List Int) x,a00 n6=3601->put n6 (min A[j].To 3600) x=M (n6.set (min A[j].To 3600).toNat x):=λn6 x f=>by grind[put]
     rw[e4 _ _ p5,b?,b?];exact .inl ⟨_,rfl,⟨p5,j+1,rfl,hj⟩,U⟩
    .rw[s7 hf,b?];exact .inl ⟨_,rfl,⟨a,j+1,rfl,hj⟩,U⟩
  grind) (x:=(h! 3601 0,0)) ⟨List.length_replicate,0,rfl,Nat.zero_le _⟩with⟨b,c,hb2⟩|⟨_,_,h⟩
 .rw[c,b?];dsimp only;rcases Rw (s:=Cf b) (λx=>∃j:Nat,x.2.2=(j:Int)/\j<=3600/\x.1.length<=j) (λx=>(3600-x.2.2).toNat) (λb=>b.length<=3600) (λ_=>False) (by
   rintro⟨n6,p,i⟩ ⟨j,a,h2,e⟩;dsimp only at a e;subst a;unfold Cf;dsimp only;by_cases hj:j<3600
   .rw[J,Ma U,b?,Ha U];by_cases d:0<aa .i64 (p+b[j])
    .rw[J d,Lf s5,b?,b?];exact .inl ⟨_,rfl,⟨j+1,rfl,hj,p5⟩,s5⟩
    .rw[s7 d,b?];exact .inl ⟨_,rfl,⟨j+1,rfl,hj,s5⟩,s5⟩
   grind) (x:=(([]:List Int),0,0)) ⟨0,rfl,U,A' _⟩with⟨r,hr1,hr2⟩|⟨_,_,h⟩
  all_goals simp_all
 simp_all
theorem an8(hl:S.length<=1048576):∃a,ja (Xk S) (([]:List (Int×Bool)),0)=M (.inl a)/\∀m,(Uq a m).getD a30=D1 (m∈S):=by
 refine⟨S.foldl (λb m=>ZC m a29 b) [],?_,λm=>?_⟩
 .refine lf (λi=>((S.take i).foldl (λb m=>ZC m a29 b) [],(i:Int))) S.length _ (λi hi=>?_) ?_ rfl
  .unfold Xk;dsimp only;rw[J,Ma hi,b?,Ha U,we hi,uah];rfl
  grind[Xk]
 .have key:∀(S:List Int) (b:List (Int×Bool)),(Uq (S.foldl (λb m=>ZC m a29 b) b) m).getD a30=(D1 (m∈S) || (Uq b m).getD a30):=by
   intro S
   induction S with
   |nil=>simp
   |cons x S c=>
    intro b;rw[Yaf,c,yA]
    grind
  grind[Uq]
theorem pac{l:List oe}(hb:∀b∈l,Y? b) (hl:l.length<=120) (to d:Int):ja (jo l to d) (([]:List cb),0,0)=M (.inl (Zv to d l,PA (Zv to d l))):=by
 refine lf (λi=>(Zv to d (l.take i),PA (Zv to d (l.take i)),(i:Int))) l.length _ (λi hi=>?_) ?_ rfl
 .have a:=hb _ (E' hi);have c:=iK (to:=to) (d:=d) (l:=l.take i) λb e=>hb b (Xaf e);have f:=BE (to:=to) (d:=d) (l:=l.take i);have ha:=aG7 a;rw[U']at c f;unfold jo;dsimp only;rw[J,Ma hi,b?,bM6 a,b?,orQ,Ha U,we hi];have g:Zv to d (l.take i++[l[i]])=Zv to d (l.take i)++if l[i].d<=to/\0<HC l[i]then [⟨d,l[i].d,1,HC l[i]⟩]else []:=by
   grind[Zv]
  rw[g];by_cases h:l[i].d<=to/\0<HC l[i]
  .rw[R1 U,s7 p6,J h,Lf s5,b?,b?,Pad];simp only[PA,w?,D!,Uai,List.sum_nil];simp only[PA]at c;rw[m? U U,Int.add_zero]
  grind
 grind[jo]
def Ct(c:kv) (to d:Int) (S:List Int) (lim:Int) (l:List oe):List cb:=Zv to d l++(Tq 2 d (λm=>D1 (m∈S)) lim l).1
theorem aG8{c:kv}(hc:0<=c.a5/\c.a5<=1000000000000000) {l:List oe}(hb:∀b∈l,Y? b) (hl:l.length<=120) (hS:S.length<=1048576) (to d:Int) :
 ∃lim,xf (PA (Zv to d l)) c=M lim/\0<=lim/\lim<=200000000000000000/\xu l to c d S=M (Ct c to d S lim l):=by
 have hsum:=iK (to:=to) (d:=d) hb;obtain⟨lim,f,j,k⟩:=bm0 hc (s:=PA (Zv to d l)) U;refine⟨lim,f,j,k,?_⟩;unfold xu;have a:=pac hb hl to d;obtain⟨i,g,h⟩:=an8 hS;rw[a,b?];dsimp only;unfold Vt Dt;have e:(λm=>(Uq i m).getD a30)=λm=>D1 (m∈S):=funext h;have hpl:=BE (to:=to) (d:=d) (l:=l);have hdl:=Ux (kind:=2) (d:=d) (om:=λm=>D1 (m∈S)) (l:=l) (rem:=lim);rw[g,b?];dsimp only;rw[f,b?,ZF hb s5 U,e];simp only[b?,List.nil_append];rw[Lf U];rfl
theorem fX{l:List oe}(hb:∀b∈l,Y? b) (hl:l.length<=120) {cents:Int}(hc:1<=cents/\cents<=1000000000000000) (d:Int):qo l cents d=M ((Tq 3 d (λ_=>a30) cents l).1,(Tq 3 d (λ_=>a30) cents l).2):=by
 unfold qo Gr;rw[s7,iD hb s5 U];simp
theorem Ar{t:ic}:ZM t=a30↔(∀f∈t.j.ab,f.ar<=t.g)/\(∀p∈t.u,p.g<=t.g)/\∀a∈t.af,a.az<=t.g:=by
 simp_all[ZM]
theorem Xq.rng{c:kv}(hc:0<=c.aj/\c.aj<=3599) (h:Xq c m):c.aj<=m/\m<=3599/\m<c.aj+120:=by
 unfold Xq at h
 grind[m?]
theorem xZ{f:cb->Int}{Q:List cb}(hn:(Q.map (·.d)).Nodup) (m:Int):lh f m Q=0\/∃q∈Q,q.d=m/\lh f m Q=f q:=by
 by_cases h:∃q∈Q,q.d=m
 .obtain⟨q,hq,rfl⟩:=h;exact .inr ⟨q,hq,rfl,EK hn hq⟩
 grind[BB]
theorem q!.addP{l:ej}{c:kv}{t:ic}(h:q! l c t) {lm:Int}{Q:List cb}(hd:t.g<=d/\d<=109572) (i:lm=t.ag\/(Xq c lm/\t.ag<=lm)) (hq:∀q∈Q,rk q/\q.g=d) (hn:(Q.map (·.d)).Nodup)
 (k:∀q∈Q,0<=lh UE q.d t.u+UE q/\lh UE q.d t.u+UE q<=1000000000000000/\lh AP q.d t.u+AP q<=1000000000000000) (hm:∀q∈Q,c.aj<=q.d/\q.d<=lm) (hl:t.u.length+Q.length<=4096) :
 q! l c ⟨t.j,t.u++Q,t.af,d,lm⟩:=by
 obtain⟨l1,l2,l3⟩:=Ar.1 h.late;have hd1:=h.date;have a:Pz (t.u++Q):=bZ7 h.led (λp g=>s5) hq hn (λq j=>(k q j).1) hl;have b:(t.u++Q).length<=8200:=s5
 refine⟨h.cf,h.hv,s5,?_,a,?_,h.jY,h.app,?_⟩
 .rcases i with e|e
  .rw[e];exact h.last
  simp_all
 .intro p g;have f:c.aj<=p.d/\p.d<=lm:=by
   rcases Ρ.1 g with g|g
   .obtain⟨b1,b2,-⟩:=mX (h.mon p g);omega
   simp_all
  obtain⟨x1,x2⟩:=mZ h p.d;unfold xL;simp only[decide_eq_false_iff_not,not_or,Int.not_lt];refine⟨f.1,f.2,?_,?_⟩
  .rw[IA b a.post,Ay]
   grind[xZ]
  .rw[eL b a.post,Ay]
   grind[xZ]
 grind[Ar]
def F8(b:oe) (q:cb):Prop:=q.d=b.d/\1<=q.ae/\((q.a=1/\q.ae=HC b)\/((q.a=2\/q.a=3)/\q.ae<=uu b)\/(q.a=4/\q.ae<=uu b))
theorem F8.ok(hb:Y? b) (h:F8 b q) (a:b.a4=lh UE b.d P) (h2:b.bc=lh AP b.d P) (hd:0<=q.g/\q.g<=109572) :
 rk q/\0<=lh UE q.d P+UE q/\lh UE q.d P+UE q<=1000000000000000/\lh AP q.d P+AP q<=1000000000000000:=by
 obtain⟨b1,b2,b3,b4⟩:=hb;obtain⟨e,e1,e2⟩:=h;rw[e,←a,←h2];unfold HC uu at e2;unfold rk;rw[e];rcases e2 with⟨k,e2⟩|⟨k,e2⟩|⟨k,e2⟩
 all_goals grind[UE,AP]
structure bN9 (c:kv) (t:ic) (to:Int) (l:List oe):Prop where
 b:∀b∈l,Y? b/\b.a4=lh UE b.d t.u/\b.bc=lh AP b.d t.u/\c.aj<=b.d/\b.d<=to
 nd:(l.map (·.d)).Nodup
 len:l.length<=120
variable {to:Int}
theorem q!.addF{l:ej}{c:kv}{t:ic}(h:q! l c t) {lm:Int}{Q:List cb}{B:List oe}(j:bN9 c t lm B) (hd:t.g<=d/\d<=109572) (i:lm=t.ag\/(Xq c lm/\t.ag<=lm)) (hq:∀q∈Q,q.g=d/\∃b∈B,F8 b q) (hn:(Q.map (·.d)).Nodup) (hl:t.u.length+Q.length<=4096) :
 q! l c ⟨t.j,t.u++Q,t.af,d,lm⟩:=by
 have hd1:=h.date;have key:∀q∈Q,rk q/\0<=lh UE q.d t.u+UE q/\lh UE q.d t.u+UE q<=1000000000000000/\lh AP q.d t.u+AP q<=1000000000000000:=λq a=>by
  obtain⟨e,b,f,g⟩:=hq q a;obtain⟨k,m,k3,-⟩:=j.b b f;exact g.ok k m k3 U
 refine h.addP hd i (λq a=>⟨(key q a).1,(hq q a).1⟩) hn (λq a=>(key q a).2) (λq a=>?_) hl;obtain⟨-,b,f,g⟩:=hq q a;obtain⟨-,-,-,k4,k5⟩:=j.b b f;rw[g.1];omega
theorem MV{l:List oe}(hn:(l.map (·.d)).Nodup) {a:oe}(ha:a∈l) (hb:b∈l) (h:a.d=b.d):a=b:=by
 obtain⟨i,hi,rfl⟩:=O' ha;obtain⟨j,hj,rfl⟩:=O' hb
 grind[List.pairwise_iff_getElem]
theorem G5{c:kv}{l:List oe}(hb:∀b∈l,Y? b) (hn:(l.map (·.d)).Nodup):((Ct c to d S lim l).map (·.d)).Nodup:=by
 unfold Ct;rw[ψ,List.nodup_append];refine⟨XV hn,Ky hn,?_⟩;intro x hx y h e;obtain⟨q,hq,rfl⟩:=V!.1 hx;obtain⟨p,g,rfl⟩:=V!.1 h;obtain⟨b,f,b2,-,-,b3,b4,-⟩:=AS hq;obtain⟨a,a1,a2,-,-,a3,a4,-⟩:=Ov g;have:=MV hn f a1 U;subst this;obtain⟨d1,d2,d3,d4⟩:=hb b f
 grind[HC,uu]
theorem an3{c:kv}{l:List oe}(hq:q∈Ct c to d S lim l):q.g=d/\∃b∈l,F8 b q:=by
 rcases Ρ.1 hq with hq|hq
 .obtain⟨b,a,e,f,g,h,i,-⟩:=AS hq;exact⟨f,b,a,e,U,.inl ⟨g,h⟩⟩
 .obtain⟨b,a,e,f,g,h,i,-⟩:=Ov hq;exact⟨f,b,a,e,h,.inr (.inl ⟨.inl g,i⟩)⟩
theorem ak1{l:List oe}(hq:q∈(Tq 3 d (λ_=>a30) lim l).1):q.g=d/\∃b∈l,F8 b q:=by
 obtain⟨b,a,c,e,f,g,h,-⟩:=Ov hq;exact⟨e,b,a,c,g,.inr (.inl ⟨.inr f,h⟩)⟩
theorem rQ{l:ej}(hl:p? l) (a:M! l) {t:ic}(hh:t.j.ab.length<=64) {c:kv}(hc:c.am.al.length<=1048576) (ht:q! l c t) (hf:0<=c.aj) (b:to<=3599) (h2:to<c.aj+120):bN9 c t to (Ls l c t to rec):=by
 refine⟨bM5 hl a hh hc ht hf b,?_,?_⟩
 .simp_all[qQ,UG]
 grind[Ls]
theorem Q9{t:ic}(h1:t.j.ab.length<=1048576) (h2:t.u.length<=1048576) (h3:t.af.length<=1048576):Jo t=M (t.j.ab,t.u,t.af):=by
 unfold Jo Nb xb Db Na fb sb
 grind
def fU(t:ic) (d:Int) (F:List ka) (P:List cb) (A:List ml) (m:Int):ic:=⟨⟨t.j.Id,t.j.Scope,t.j.w,F⟩,P,A,d,m⟩
section
variable {l:ej} {c:kv} {t:ic} {e:wt}
theorem au5(hl:p? l) (ht:q! l c t) (hd:t.g<=e.g/\e.g<=109572) (h1:t.j.ab.length<=1048576):∃F n,Ko l t e t.j.ab=M (F,n)/\(n=0->F=t.j.ab++[e.a2]/\e.a2.ar=e.g/\q! l c (fU t e.g F t.u t.af t.ag)):=by
 unfold Ko;by_cases h:e.a2.ar=e.g
 case neg=>exact⟨_,_,by rw[J h],λh=>U⟩
 rw[s7 (E!.2 h),Lf s5,b?,Mg _ _ hl.ns];refine⟨_,_,rfl,λb=>⟨rfl,h,ht.cf,b,?_,ht.last,ht.led,ht.mon,ht.jY,ht.app,?_⟩⟩
 .have:=ht.date;grind[fU]
 .obtain⟨l1,l2,l3⟩:=Ar.1 ht.late;refine Ar.2 ⟨λf hf=>?_,λp hp=>?_,λa ha=>?_⟩
  all_goals grind[fU]
theorem aG4{Q:List cb}(h1:P.length<=1048576) (h2:Q.length<=1048576):Mo P Q=M (if P.length+Q.length<=4096 then(P++Q,0)else(P,4)):=by
 unfold Mo;rw[m? U U,Lf U,b?]
 grind
theorem bL8{x:List cb×Int}(h1:P.length<=1048576) (h2:x.1.length<=1048576):Po P x=M (if P.length+a00 x.1<=4096 then(P++x.1,0)else(P,4)):=by
 unfold Po;rw[m? U U,Lf U,b?]
 grind
theorem RR(hc:0<=c.aj/\c.aj<=3599) (ht:q! l c t):t.ag<=3599/\t.ag<c.aj+120:=by
 rcases ht.last with h|h
 .omega
 .have:=h.rng hc;omega
theorem aX2(hl:p? l) (f:M! l) (hc:c.am.al.length<=1048576) (hh:t.j.ab.length<=64) (ht:q! l c t) (hd:t.g<=e.g/\e.g<=109572):∃P m n,uk l c t e t.j.ab t.u t.af=M (P,m,n)/\
 (n=0->m=e.d/\Xq c e.d/\t.ag<=e.d/\(∃lim S,Jb t.af=M S/\S.length<=3600/\xf (PA (Zv e.d e.g (Ls l c t e.d e.g))) c=M lim/\0<=lim/\P=t.u++Ct c e.d e.g S lim (Ls l c t e.d e.g))/\q! l c (fU t e.g t.j.ab P t.af e.d)):=by
 obtain⟨hf,g⟩:=Wz ht.cf;have hp4:=ht.led.1;have ha4:=ht.jY;unfold uk;rw[XF,b?];by_cases a:Xq c e.d
 case neg=>exact⟨_,_,_,by rw[R1 a,J rfl],λh=>U⟩
 obtain⟨m1,m2,m3⟩:=a.rng hf;rw[D2 a,s7 p6];by_cases ho:e.d<t.ag
 .exact⟨_,_,_,by rw[J ho],λh=>U⟩
 rw[s7 ho];have d:=rQ hl f hh hc ht (to:=e.d) (rec:=e.g) hf.1 m2 m3;have e1:qb l c (ic.mk (na.mk t.j.Id t.j.Scope t.j.w t.j.ab) t.u t.af t.g t.ag) e.d e.g=M (Ls l c t e.d e.g):=by
  have:=Is hl f hh hc (t:=t) U U (to:=e.d) hf.1 m3 e.g
  simp_all[if_neg]
 rw[e1,b?];obtain⟨S,s1,s2⟩:=dT (A:=t.af) U;obtain⟨lim,g1,g2,g3,g4⟩:=aG8 g (λb hb=>(d.b b hb).1) d.len (S:=S) U e.d e.g;rw[s1,b?,g4,b?];obtain⟨Q,hQ⟩:∃Q,Q=Ct c e.d e.g S lim (Ls l c t e.d e.g):=⟨_,rfl⟩;rw[←hQ];have hQl:Q.length<=240:=by
  grind[Ls,Ct,BE,Ux]
 rw[aG4 U U,b?];by_cases i:t.u.length+Q.length<=4096
 case neg=>exact⟨_,_,_,by rw[s7 i],λh=>U⟩
 rw[J i];refine⟨_,_,_,rfl,λ_=>⟨rfl,a,U,⟨lim,S,rfl,s2,g1,g2,by rw[hQ]⟩,?_⟩⟩;exact ht.addF d hd (.inr ⟨a,U⟩) (λq hq=>an3 (c:=c) (to:=e.d) (S:=S) (lim:=lim) p5) (by rw[hQ];exact G5 (λb hb=>(d.b b hb).1) d.nd) i
theorem q!.setA(ht:q! l c t) (hd:t.g<=d/\d<=109572) (b:A.length<=16) (h2:∀i (h:i<a00 A),Dx A[i]/\A[i].Id=(i:Int)) (e:∀a∈A,a.az<=d):q! l c (fU t d t.j.ab t.u A t.ag):=by
 obtain⟨l1,l2,l3⟩:=Ar.1 ht.late;refine⟨ht.cf,ht.hv,?_,ht.last,ht.led,ht.mon,b,h2,Ar.2 ⟨λf hf=>?_,λp hp=>?_,e⟩⟩
 .have:=ht.date;grind[fU]
 all_goals grind[fU]
theorem K3(hc:c.am.al.length<=1048576) (ht:q! l c t) (hd:t.g<=e.g/\e.g<=109572):∃A n,No c e t.af=M (A,n)/\(n=0->(∃a,A=t.af++[a])/\q! l c (fU t e.g t.j.ab t.u A t.ag)):=by
 have ha:=ht.jY;unfold No;by_cases h:16<=(a00 t.af:Int)
 .exact⟨_,_,by rw[J h],λh=>U⟩
 rw[s7 h];obtain⟨r,f,g⟩:=bd5 hc (a00 t.af:Int) e.d e.bl e.g e.aq;rw[f,b?];by_cases b:r.2=0
 case neg=>exact⟨_,_,by rw[J b],λh=>absurd h b⟩
 rw[s7 (E!.2 b),Lf s5,b?];obtain⟨k1,k2,k3⟩:=g b;refine⟨_,_,rfl,λ_=>⟨⟨_,rfl⟩,ht.setA hd s5 (λi hi=>?_) λa ha=>?_⟩⟩
 .rw[G!,w!,A?]at hi;rcases Ο i t.af.length with d|d
  .rw[List.getElem_append_left d];exact ht.app i d
  grind
 .rcases Ρ.1 ha with ha|ha
  .have:=(Ar.1 ht.late).2.2 a ha;omega
  simp_all
theorem M3(ht:q! l c t) (hd:t.g<=e.g/\e.g<=109572):∃A n,Oo e t.af=M (A,n)/\(n=0->A.length=a00 t.af/\t.af≠[]/\q! l c (fU t e.g t.j.ab t.u A t.ag)):=by
 have ha:=ht.jY;unfold Oo;have hj:(if¬e.a9<0 then M (D1 ((a00 t.af:Int)<=e.a9))else M a29)=M (D1 (e.a9<0\/(a00 t.af:Int)<=e.a9)):=by
  grind
 rw[hj,b?];by_cases h:e.a9<0\/(a00 t.af:Int)<=e.a9
 .exact⟨_,_,by rw[D2 h,J rfl],λh=>U⟩
 rw[R1 h,s7 p6];obtain⟨k,hk⟩:=Int.eq_ofNat_of_zero_le (show 0<=e.a9 by omega);have b:k<a00 t.af:=U
 rw[hk,Ma b,b?];obtain⟨r,m,o⟩:=RN (ht.app k b).1 e.av e.ae e.g;rw[m,b?];by_cases f:r.2=0
 case neg=>exact⟨_,_,by rw[J f],λh=>absurd h f⟩
 rw[s7 (E!.2 f),cD b,b?];obtain⟨g,j,k3⟩:=o f;refine⟨_,_,rfl,λ_=>⟨p6,λh=>p5,ht.setA hd p5 (λi hi=>?_) λa ha=>?_⟩⟩
 .rw[List.length_set]at hi;rw[List.getElem_set];by_cases d:k=i
  .subst d;rw[J rfl];exact⟨g,by rw[j];exact(ht.app k b).2⟩
  .rw[s7 d];exact ht.app i hi
 .obtain⟨-,-,l3⟩:=Ar.1 ht.late
  grind
theorem Oaa(hl:p? l) (f:M! l) (hc:c.am.al.length<=1048576) (hh:t.j.ab.length<=64) (ht:q! l c t) (hd:t.g<=e.g/\e.g<=109572):∃P n,qn l c t e t.j.ab t.u t.af=M (P,n)/\
 (n=0->(∃Q,P=t.u++Q/\(∀q∈Q,q.a=3)/\Q.length<=(t.ag+1-c.aj).toNat)/\q! l c (fU t e.g t.j.ab P t.af t.ag)):=by
 obtain⟨hf,hfl⟩:=Wz ht.cf;have hp4:=ht.led.1;have ha4:=ht.jY;unfold qn;rw[orQ];by_cases h:e.ae<1\/1000000000000000<e.ae
 .exact⟨_,_,by rw[D2 h,J rfl],λh=>U⟩
 rw[R1 h,s7 p6];obtain⟨m2,m3⟩:=RR hf ht;have e1:qb l c (ic.mk (na.mk t.j.Id t.j.Scope t.j.w t.j.ab) t.u t.af t.g t.ag) t.ag e.g=_:=Is hl f hh hc (t:=t) U U (to:=t.ag) hf.1 m3 e.g;rw[e1,b?];by_cases hm:t.ag<c.aj\/3599<t.ag
 .rw[J hm,fX p6 p6 U,b?];refine⟨_,_,by rw[J (by grind[Tq])],λh=>U⟩
 rw[s7 hm];have a:=rQ hl f hh hc ht (to:=t.ag) (rec:=e.g) hf.1 m2 m3;rw[fX (λb hb=>(a.b b hb).1) a.len U,b?];split
 .grind
 have hdl:=Ux (kind:=3) (d:=e.g) (om:=λ_=>a30) (l:=Ls l c t t.ag e.g) (rem:=e.ae);have hbl:=a.len;rw[bL8 U s5,b?];by_cases g:t.u.length+(Tq 3 e.g (λ_=>a30) e.ae (Ls l c t t.ag e.g)).1.length<=4096
 case neg=>exact⟨_,_,by rw[s7 g],λh=>U⟩
 rw[J g];refine⟨_,_,rfl,λ_=>⟨⟨_,rfl,λq hq=>?_,?_⟩,?_⟩⟩
 .grind[Ov]
 .grind[Ls]
 .exact ht.addF a hd (.inl rfl) (λq hq=>ak1 hq) (Ky a.nd) g
end
theorem aZ8{e:wt}(h1:P.length<=1048576):rn e P=M (if P.length+1<=4096 then(P++[⟨e.g,e.d,4,e.ae⟩],0)else(P,4)):=by
 unfold rn
 first
  |rw[m? (by simp only[w!,A?];omega) (by simp only[w!,A?];omega),Lf (by simp only[w!,A?];omega),b?]
  |rw[m? U U,Lf s5,b?]
 grind
theorem ab8{l:List oe}(hl:l.length<=1048576) (e:wt):Ea l (λx=>Yb x e)=M (match ff (λi=>if(l[i]?.any λb=>b.d==e.d)=a29 then M (i:Int)else u4) l.length with|some v=>v|none=>-1):=by
 unfold Ea;have:ja (Eb l λx=>Yb x e) 0=M (Aj () (ff (λi=>if(l[i]?.any λb=>b.d==e.d)=a29 then M (i:Int)else u4) l.length)):=
  sab (l:=l) (p:=λx=>Yb x e) (λb=>b.d==e.d) (λx _=>rfl) U
 rw[this,b?];cases ff (λi=>if(l[i]?.any λb=>b.d==e.d)=a29 then M (i:Int)else u4) l.length<;>rfl
section
variable {l:ej} {c:kv} {t:ic} {e:wt}
theorem Paa(hl:p? l) (a:M! l) (hc:c.am.al.length<=1048576) (hh:t.j.ab.length<=64) (ht:q! l c t) (hd:t.g<=e.g/\e.g<=109572):∃P n,sn l c t e t.j.ab t.u t.af=M (P,n)/\
 (n=0->(∃q,P=t.u++[q]/\q.a=4)/\q! l c (fU t e.g t.j.ab P t.af t.ag)):=by
 obtain⟨hf,hfl⟩:=Wz ht.cf;have hp4:=ht.led.1;have ha4:=ht.jY;unfold sn;rw[orQ];by_cases h:e.ae<1\/1000000000000000<e.ae
 .exact⟨_,_,by rw[D2 h,J rfl],λh=>U⟩
 rw[R1 h,s7 p6];obtain⟨m2,m3⟩:=RR hf ht;have e1:qb l c (ic.mk (na.mk t.j.Id t.j.Scope t.j.w t.j.ab) t.u t.af t.g t.ag) t.ag e.g=_:=Is hl a hh hc (t:=t) U U (to:=t.ag) hf.1 m3 e.g;rw[e1,b?];by_cases hm:t.ag<c.aj\/3599<t.ag
 .rw[J hm,ab8 p6,b?];exact⟨_,_,by rw[J (by simp[ff])],λh=>U⟩
 rw[s7 hm];have f:=rQ hl a hh hc ht (to:=t.ag) (rec:=e.g) hf.1 m2 m3;generalize hbl:Ls l c t t.ag e.g=B at f⊢;have hlen:=f.len;rw[ab8 U,b?]
 cases k:ff (λi=>if(B[i]?.any λb=>b.d==e.d)=a29 then M (i:Int)else u4) B.length with
 |none=>grind
 |some v=>
  obtain⟨i,g,j,-⟩:=Vb.1 k;rw[x! g]at j;simp only[Option.any_some,T!]at j;split at j
  case isFalse=>grind
  rename_i d;obtain rfl:=R' j;dsimp only;rw[s7,Ma g,b?];obtain⟨p,k2,k3,k4,k5⟩:=f.b _ (E' g);rw[yS p,b?];by_cases m:uu B[i]<e.ae
  .exact⟨_,_,by rw[J m],λh=>U⟩
  rw[s7 m,aZ8 U,b?];by_cases o:t.u.length+1<=4096
  case neg=>exact⟨_,_,by rw[s7 o],λh=>U⟩
  rw[J o];refine⟨_,_,rfl,λ_=>⟨⟨_,rfl,rfl⟩,?_⟩⟩;refine ht.addF f hd (.inl rfl) (λq hq=>?_) p6 U;obtain rfl:=List.mem_singleton.1 hq;exact⟨rfl,B[i],E' g,d.symm,p5,.inr (.inr ⟨rfl,p5⟩)⟩
inductive EvR (l:ej) (c:kv) (t:ic) (e:wt):List ka->List cb->List ml->Int->Prop
 |fact (hk:e.a=1) (hr:e.a2.ar=e.g):EvR l c t e (t.j.ab++[e.a2]) t.u t.af t.ag
 |pay (hk:e.a=2) (lim:Int) (S:List Int) (hm:Xq c e.d/\t.ag<=e.d) (hS:Jb t.af=M S/\S.length<=3600) (hlim:xf (PA (Zv e.d e.g (Ls l c t e.d e.g))) c=M lim/\0<=lim) :
  EvR l c t e t.j.ab (t.u++Ct c e.d e.g S lim (Ls l c t e.d e.g)) t.af e.d
 |appeal (hk:e.a=3) (a:ml):EvR l c t e t.j.ab t.u (t.af++[a]) t.ag
 |D1 (hk:e.a=4) (A:List ml) (hA:A.length=a00 t.af/\t.af≠[]):EvR l c t e t.j.ab t.u A t.ag
 |repay (hk:e.a=5) (Q:List cb) (hQ:(∀q∈Q,q.a=3)/\Q.length<=(t.ag+1-c.aj).toNat):EvR l c t e t.j.ab (t.u++Q) t.af t.ag
 |waive (hk:e.a=6) (q:cb) (hq:q.a=4):EvR l c t e t.j.ab (t.u++[q]) t.af t.ag
theorem aA5(hl:p? l) (i:M! l) (hc:c.am.al.length<=1048576) (hh:t.j.ab.length<=64) (h2:t.u.length<=1048576) (u:t.af.length<=1048576) :
 ∃r,xe l c t e=M r/\((r.2≠0/\r.1=t)\/(r.2=0/\q! l c t/\(t.g<=e.g/\e.g<=109572)/\∃F P A m,r.1=fU t e.g F P A m/\EvR l c t e F P A m/\q! l c r.1)):=by
 obtain⟨n,y,z⟩:=Lv hl hc (t:=t) U h2 u;unfold xe;rw[y,b?];by_cases s:n=0
 case neg=>simp_all
 have ht:=z.1 s;rw[s7 (E!.2 s),GJ,b?];by_cases hd:0<=e.g/\e.g<=109572
 case neg=>simp_all
 rw[D2 hd,s7 p6];by_cases ho:e.g<t.g
 .simp_all
 have b:t.g<=e.g/\e.g<=109572:=U
 rw[s7 ho,Q9 U h2 u,b?];dsimp only;have fin:∀(o:Option (List ka×List cb×List ml×Int×Int)),(∃F P A m k,o=M (F,P,A,m,k)/\(k=0->EvR l c t e F P A m/\q! l c (fU t e.g F P A m)))->
  ∃r,(e? o λx=>if¬x.2.2.2.2=0 then M (t,x.2.2.2.2)else M (ic.mk (na.mk t.j.Id t.j.Scope t.j.w x.1) x.2.1 x.2.2.1 e.g x.2.2.2.1,0))=M r/\((r.2≠0/\r.1=t)\/(r.2=0/\q! l c t/\(t.g<=e.g/\e.g<=109572)/\∃F P A m,r.1=fU t e.g F P A m/\EvR l c t e F P A m/\q! l c r.1)):=by
  rintro o ⟨F,P,A,m,k,rfl,hk⟩;rw[b?];by_cases h:k=0
  .rw[s7 (E!.2 h)];obtain⟨g1,g2⟩:=hk h;exact⟨_,rfl,.inr ⟨rfl,ht,b,F,P,A,m,rfl,g1,g2⟩⟩
  simp_all
 refine fin _ ?_;by_cases j:e.a=1
 .rw[J j];obtain⟨F,k,a1,a2⟩:=au5 (e:=e) hl ht b U;rw[a1];exact⟨F,_,_,_,k,rfl,λh=>by obtain⟨d,f,g⟩:=a2 h;exact⟨by rw[d];exact .fact j f,g⟩⟩
 rw[s7 j];by_cases p:e.a=2
 .rw[J p];obtain⟨P,m,k,a1,a2⟩:=aX2 (e:=e) hl i hc hh ht b;rw[a1];exact⟨_,P,_,m,k,rfl,λh=>by
   obtain⟨d,f,g,⟨lim,S,s1,s2,B,C,D⟩,w⟩:=a2 h;rw[d];exact⟨by rw[D];exact .pay p lim S ⟨f,g⟩ ⟨s1,s2⟩ ⟨B,C⟩,w⟩⟩
 rw[s7 p];by_cases k3:e.a=3
 .rw[J k3];obtain⟨A,k,a1,a2⟩:=K3 (e:=e) hc ht b;rw[a1];exact⟨_,_,A,_,k,rfl,λh=>by obtain⟨⟨a,d⟩,f⟩:=a2 h;exact⟨by rw[d];exact .appeal k3 a,f⟩⟩
 rw[s7 k3];by_cases k4:e.a=4
 .rw[J k4];obtain⟨A,k,a1,a2⟩:=M3 (e:=e) ht b;rw[a1];exact⟨_,_,A,_,k,rfl,λh=>by obtain⟨v,d,f⟩:=a2 h;exact⟨.D1 k4 A ⟨v,d⟩,f⟩⟩
 rw[s7 k4];by_cases k5:e.a=5
 .rw[J k5];obtain⟨P,k,a1,a2⟩:=Oaa (e:=e) hl i hc hh ht b;rw[a1];exact⟨_,P,_,_,k,rfl,λh=>by obtain⟨⟨Q,d,f⟩,g⟩:=a2 h;exact⟨by rw[d];exact .repay k5 Q f,g⟩⟩
 rw[s7 k5];by_cases k6:e.a=6
 .rw[J k6];obtain⟨P,k,a1,a2⟩:=Paa (e:=e) hl i hc hh ht b;rw[a1];exact⟨_,P,_,_,k,rfl,λh=>by obtain⟨⟨q,d,f⟩,g⟩:=a2 h;exact⟨by rw[d];exact .waive k6 q f,g⟩⟩
 rw[s7 k6]
 grind
end
theorem lD{l:List cb}(hl:l.length<=1048576):Vp l l=M a29:=by
 unfold Vp;rw[s7 p6];have:ja (il l l) 0=M (.inl ()):=by
  refine lf (λi=>(i:Int)) l.length _ (λi hi=>?_) ?_ rfl
  .unfold il;rw[J,b?,D2 U,J (rfl:a29=a29),Ma hi,b?,b?,s7 p6,Ha U]
  .simp[il]
 rw[this];rfl
theorem PE{l:List ml}(hl:l.length<=1048576):Kr l l=M a29:=by
 unfold Kr;rw[s7 p6];have:ja (Gm l l) 0=M (.inl ()):=by
  refine lf (λi=>(i:Int)) l.length _ (λi hi=>?_) ?_ rfl
  .unfold Gm;rw[J,b?,D2 U,J (rfl:a29=a29),Ma hi,b?,b?,s7 p6,Ha U]
  .simp[Gm]
 rw[this];rfl
theorem OE{t:ic}(a:t.j.ab.length<=1048576) (h2:t.u.length<=1048576) (b:t.af.length<=1048576):Jr t t=M a29:=by
 unfold Jr Lr;rw[vH a,lD h2,PE b];simp
theorem nae:Rc 0=(⟨0,31⟩,0):=aaK
def c1(q:cb):Int:=if q.a=1 then q.ae else 0
def c2(q:cb):Int:=if q.a=1 then 0 else q.ae
section
variable {l:ej} {c:kv} {t:ic} {to d lim:Int} {S:List Int}
end
end Go.Proofs.Dev
