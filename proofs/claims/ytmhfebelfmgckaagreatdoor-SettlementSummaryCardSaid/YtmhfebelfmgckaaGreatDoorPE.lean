/-
  The functions as plain partial functions, and plain lemmas about them: no condition.
-/
import Derived.Test.YtmhfebelfmgckaaGreatDoorPD
open Option renaming some->M,none->q6
open Decidable renaming decide->s5
open Bool renaming false_eq_true->t!,true->a35,false->a36
open Classical renaming not_not->v!
open Int renaming le_refl->Vad
open List renaming any_eq_true->Lac,append_nil->V!,filter_cons->ead,foldl_append->Sab,foldl_cons->Z',foldl_filter->oad,foldl_nil->jac,getElem?_cons_zero->ξ,getElem?_eq_getElem->n!,getElem_mem->y!,getElem_of_mem->H',length_cons->H!,length_filterMap_le->Sad,length_map->Bab,length_nil->L!,length_take->bac,map_append->Wab,map_cons->F?,map_map->aaf,map_nil->W?,mem_cons_of_mem->tac,mem_map->X',mem_of_mem_take->Mab,mem_singleton->ψ,range->o?,range_one->Sae,range_succ->nac,sum_cons->Wad,length->a00
open Nat renaming le_refl->x?,le_trans->P'
open Option renaming bind->b?,bind_some->a!,getD_some->Τ,toList_none->Aae
open Option.some renaming inj->J!
set_option linter.all false
set_option maxRecDepth 10000
set_option maxHeartbeats 1000000
namespace Go.Proofs.Dev
open Go Go.Tm
variable {m rec d a:Int}{p:ic}{α ρ:Type}{i:Nat}{A:List po}{P:List ic}{w:ka}{B:List pr}
theorem wrap_i64(n:Int):aa .i64 n=(n+9223372036854775808) % 18446744073709551616-9223372036854775808:=by
 show pL n 9223372036854775808 18446744073709551616=_;unfold pL
 grind
theorem ab3(a b:Int):aa .i64 (aa .i64 a+b)=aa .i64 (a+b):=by
 grind[wrap_i64]
def XL(p:ic):Int:=if p.a=1 then p.ad else if p.a=2\/p.a=3 then aa .i64 (-p.ad)else 0
theorem GL(p:ic):du p=M (XL p):=by
 grind[du,XL]
theorem WE(p:ic):Gt p=M (XL p):=by
 grind[Gt,XL]
def sy(m:Int) (l:List ic):Int:=l.foldl (λs p=>if p.q=m then aa .i64 (s+XL p)else s) 0
def xH(m:Int) (l:List ic):Int:=l.foldl (λs p=>if p.q=m/\p.a=4 then aa .i64 (s+p.ad)else s) 0
theorem lK{l:List ic}(hl:l.length<=1048576) (m:Int):Hs l m=M (sy m l):=by
 unfold Hs;have:ca (Om l m) (0,0)=M (.inl (sy m l)):=by
  refine Uc (λi=>(sy m (l.take i),(i:Int))) l.length _ (λi hi=>?_) ?_ rfl
  .unfold Om;dsimp only;rw[J,wa hi,Gb hi]
   grind[sy,WE,pa]
  grind[Om]
 grind
theorem NO{l:List ic}(hl:l.length<=1048576) (m:Int):xw l m=M (xH m l):=by
 unfold xw;have:ca (wq l m) (0,0)=M (.inl (xH m l)):=by
  refine Uc (λi=>(xH m (l.take i),(i:Int))) l.length _ (λi hi=>?_) ?_ rfl
  .unfold wq;dsimp only;rw[J,wa hi,Gb hi]
   grind[xH,pa]
  grind[wq]
 grind
theorem Lz{α:Type}(c:α->Bool) (v:α->Int):∀(l:List α) (s:Int),l.foldl (λs p=>if c p=a35 then aa .i64 (s+v p)else s) (aa .i64 s)=aa .i64 (s+(l.map λp=>if c p=a35 then v p else 0).sum)
 |[],s=>l5
 |p::l,s=>by
  simp only[Z',F?,Wad];by_cases h:c p=a35
  .simp only[h,w3];rw[ab3,Lz c v l]
   grind
  .simp only[h,s7,t!];rw[Lz c v l];simp
theorem F0(p:ic):ND p=XL p:=by
 grind[ND,XL]
theorem MW(m:Int):∀l:List ic,((l.filter λp=>p.a==1).map λp=>if(p.q==m)=a35 then ND p else 0).sum+((l.filter λp=>p.a==2).map λp=>if(p.q==m)=a35 then ND p else 0).sum+((l.filter λp=>p.a==3).map λp=>if(p.q==m)=a35 then ND p else 0).sum=(l.map λp=>if(p.q==m)=a35 then XL p else 0).sum
 |[]=>rfl
 |p::l=>by
  have d:=MW m l;have h0:¬p.a=1->¬p.a=2->¬p.a=3->XL p=0:=λa b c=>by grind[XL]
  simp only[ead,F?,Wad,R2,F0]at d⊢
  grind
theorem w0:aa .i64 0=0:=o4
theorem kT(m:Int) (l:List ic):uO m l [1,2,3]=sy m l:=by
 have a:sy m l=aa .i64 (0+(l.map λp=>if(p.q==m)=a35 then XL p else 0).sum):=by
  rw[←Lz (λp=>p.q==m) XL l 0,w0]
  grind[sy]
 unfold uO;simp only[Z',jac];have e:∀k s,(l.filter λp=>p.a==k).foldl (λs p=>if(p.q==m)=a35 then aa .i64 (s+ND p)else s) (aa .i64 s)=_:=λk s=>Lz (λp:ic=>p.q==m) ND _ s;rw[←w0,e,e,e,a,←MW m l];simp
theorem lI{l:List ic}(hl:l.length<=1048576) (m:Int):Pg l m=M (sy m l):=by
 unfold Pg;rw[J,kT]
theorem FL{l:List ic}(hl:l.length<=1048576) (m:Int):Qj l m=M (xH m l):=by
 unfold Qj;rw[J,oad]
 grind[xH]
theorem SV{β:Type}{k:Int}{x:β}{q:Int}:∀{l:List (Int×β)},cO (xX k x l) q=if q=k then M x else cO l q
 |[]=>rfl
 |(a,b)::l=>by
  unfold xX;split
  .grind[cO]
  .rename_i h;simp only[cO,SV (l:=l)]
   grind
theorem r9{l:List ic}:sy m (l++[p])=if p.q=m then aa .i64 (sy m l+XL p)else sy m l:=by
 grind[sy]
theorem ffc{l:List α}{q:α->Bool}{v:ρ}:ff (λi=>if(l[i]?.any q)=a35 then M v else q6) l.length=if l.any q=a35 then M v else q6:=by
 have h:=Rv (l:=l) (q:=q) (g:=λ_=>v)
 cases hf:ff (λi=>if(l[i]?.any q)=a35 then M v else q6) l.length with
 |none=>
  grind
 |some w=>
  rw[hf]at h;rw[J (show l.any q=a35 from h.symm)]
  grind[Oa]
theorem CF{l:List α}(hl:l.length<=1048576) (q:α->Bool) (v:ρ) {step:Int->Option (Ex Int Unit ρ)}
 (hs:∀i (h:i<a00 l),step (i:Int)=M (if q l[i]=a35 then .ret v else .go (aa .i64 ((i:Int)+1)))) (he:step (a00 l:Int)=M (.brk ())) :
 ca step 0=M (if l.any q=a35 then .inr v else .inl ()):=by
 have:ca step 0=M (Ib () (ff (λi=>if(l[i]?.any q)=a35 then M v else q6) l.length)):=
  xb (λi=>(i:Int)) _ l.length () (λi hi _=>by
   grind[UD,pa]) (λ_=>he)
 rw[this,ffc];by_cases h:l.any q=a35
 .rw[J h,J h];rfl
 .rw[p5 h,p5 h];rfl
def aS(c:ma) (t:nb) (m:Int):Bool:=s5 (m<c.ah\/t.as<m\/1000000000000000<sy m t.ak\/1000000000000000<xH m t.ak)
theorem al5{l:List ic}(hl:l.length<=1048576):cu l=M (Vd (l.map (·.q))):=by
 unfold cu;have:ca (fo l) (([]:List Int),0)=M (.inl (l.map (·.q))):=by
  refine Uc (λi=>((l.take i).map (·.q),(i:Int))) l.length _ (λi hi=>?_) ?_ rfl
  .have h2:(l.take i).length<=a00 l:=o0
   unfold fo;dsimp only;rw[J,wa hi,a!,me o0,a!,pa U,Gb hi]
   grind
  grind[fo]
 grind[JW]
theorem gW{c:ma}{t:nb}(hl:t.ak.length<=1048576) {L:List Int}(a:L.length<=1048576):ca (nj c t L) 0=M (if L.any (aS c t)=a35 then .inr 3 else .inl ()):=by
 refine CF a _ _ (λi hi=>?_) ?_
 .unfold nj;rw[J,wa hi];simp only[a!,lI hl,FL hl]
  grind[aS]
 grind[nj]
theorem TX{c:ma}{t:nb}:(Vd (t.ak.map (·.q))).any (aS c t)=t.ak.any λp=>aS c t p.q:=by
 rw[Bool.eq_iff_iff,Lac,Lac];constructor
 .rintro⟨m,hm,hb⟩;obtain⟨p,a,rfl⟩:=X'.1 (((Mf _).2.2 _).1 hm)
  grind
 .rintro⟨p,a,hb⟩;exact⟨p.q,((Mf _).2.2 _).2 (X'.2 ⟨p,a,rfl⟩),hb⟩
def gR(t:nb):Bool:=(t.am.ab.any λf=>s5 (t.z<f.ai)) || ((t.ak.any λp=>s5 (t.z<p.z)) || t.ao.any λa=>s5 (t.z<a.a1))
theorem ao0{t:nb}(a:t.am.ab.length<=1048576) (h2:t.ak.length<=1048576) (b:t.ao.length<=1048576):Ar t=M (!gR t):=by
 unfold Ar gR;rw[CF a (λf=>s5 (t.z<f.ai)) a36 (λi hi=>by
  unfold Uq;rw[J,wa hi,a!]
  grind) (by grind[Uq])]
 rw[CF h2 (λf=>s5 (t.z<f.z)) a36 (λi hi=>by
  unfold Tq;rw[J,wa hi,a!]
  grind) (by grind[Tq])]
 rw[CF b (λf=>s5 (t.z<f.a1)) a36 (λi hi=>by
  unfold Rq;rw[J,wa hi,a!]
  grind) (by grind[Rq])]
 grind
def Qw(p:ic):Prop:=(0<=p.z/\p.z<=109572)/\(0<=p.q/\p.q<=3599)/\(1<=p.ad/\p.ad<=1000000000000000)/\1<=p.a/\p.a<=4
instance (p:ic):Decidable (Qw p):=by unfold Qw;infer_instance
def BK(l:List ic):Prop:=a00 l<=4096/\∀i (h:i<a00 l),Qw l[i]/\(∀_:0<i,l[i-1].z<=l[i].z)/\0<=sy l[i].q (l.take (i+1))
def aQ(l:List ic):List (Int×Int):=l.foldl (λm p=>xX p.q (aa .i64 ((cO m p.q).getD 0+XL p)) m) []
theorem lR{l:List ic}:aQ (l++[p])=xX p.q (aa .i64 ((cO (aQ l) p.q).getD 0+XL p)) (aQ l):=by simp[aQ]
theorem am2(l:List ic) (q:Int):(cO (aQ l) q).getD 0=sy q l:=by
 have key:∀i,i<=a00 l->∀q,(cO (aQ (l.take i)) q).getD 0=sy q (l.take i):=by
  intro i
  induction i with
  |zero=>intro _ q;rfl
  |succ i ih=>
   intro hi q;rw[Gb hi,lR,SV,r9]
   grind
 have:=key l.length (x? _) q
 simp_all
def SP(l:List ic) (i:Nat):Option (Int×Int):=
 match l[i]? with
 |none=>q6
 |some p=>if p.z<0\/109572<p.z\/p.q<0\/3599<p.q\/p.ad<1\/1000000000000000<p.ad then M ((i:Int),3)else if p.a<1\/4<p.a then M ((i:Int),1)
  else if 0<i/\((l[i-1]?).any λq=>s5 (p.z<q.z))=a35 then M ((i:Int),9)else if sy p.q (l.take (i+1))<0 then M ((i:Int),13)else q6
theorem mI(l:List ic):Vp l=M (if 4096<(a00 l:Int)then(4096,4)else(ff (SP l) l.length).getD (0,0)):=by
 unfold Vp;by_cases hl:4096<(a00 l:Int)
 .grind
 rw[p5 hl,p5 hl];have:ca (wk l) (([]:List (Int×Int)),0)=M (Ib () (ff (SP l) l.length)):=by
  refine xb (λi=>(aQ (l.take i),(i:Int))) _ l.length () (λj hj _=>?_) (λ_=>?_)
  .unfold wk;dsimp only;rw[J,wa hj,a!];have a:(b? (α:=Bool) (b? (α:=Bool) (if¬l[j].z<0 then M (s5 (109572<l[j].z))else M a35) λf=>if f=a35 then M a35 else b? (α:=Bool) (if¬l[j].q<0 then M (s5 (3599<l[j].q))else M a35) λc=>if c=a35 then M a35 else if¬l[j].ad<1 then M (s5 (1000000000000000<l[j].ad))else M a35) λb=>M b)=M (s5 (l[j].z<0\/109572<l[j].z\/l[j].q<0\/3599<l[j].q\/l[j].ad<1\/1000000000000000<l[j].ad)):=by
    grind
   have bi:∀o:Option Bool,(b? o λb=>M b)=o:=λo=>l5
   rw[bi]at a;rw[a];unfold SP;rw[n! hj];dsimp only;simp only[a!];by_cases g:l[j].z<0\/109572<l[j].z\/l[j].q<0\/3599<l[j].q\/l[j].ad<1\/1000000000000000<l[j].ad
   .rw[s6 g,J (rfl:a35=a35),J g,P2]
   rw[u4 g,p5 l5,p5 g];rw[orQ];by_cases g2:l[j].a<1\/4<l[j].a
   .rw[s6 g2,J (rfl:a35=a35),J g2,P2]
   rw[u4 g2,p5 l5,p5 g2];have ho:(if(0:Int)<(j:Int)then(c! l (aa .i64 ((j:Int)-1))).bind λd=>M (s5 (l[j].z<d.z))else M a36)=M (s5 (0<j/\((l[j-1]?).any λq=>s5 (l[j].z<q.z))=a35)):=by
    by_cases e:0<j
    .rw[J,g! U U,show((j:Int)-1)=((j-1:Nat):Int) by omega,wa U,n! U]
     grind
    simp_all
   rw[ho,a!];by_cases g3:0<j/\((l[j-1]?).any λq=>s5 (l[j].z<q.z))=a35
   .rw[s6 g3,J (rfl:a35=a35),J g3,P2]
   rw[u4 g3,p5 l5,p5 g3];have hm:xX l[j].q (aa .i64 ((cO (aQ (l.take j)) l[j].q).getD 0+XL l[j])) (aQ (l.take j))=aQ (l.take (j+1)):=by rw[Gb hj,lR]
   rw[GL,a!,hm,am2,pa U];by_cases e:sy l[j].q (l.take (j+1))<0
   all_goals simp_all[P2,if_neg,ch4]
  grind[wk]
 rw[this,a!];cases ff (SP l) l.length<;>rfl
theorem TQ{l:List ic}(h:i<a00 l):SP l i=q6↔Qw l[i]/\(∀_:0<i,l[i-1].z<=l[i].z)/\0<=sy l[i].q (l.take (i+1)):=by
 unfold SP Qw;rw[n! h,n! (show i-1<a00 l by omega)]
 grind
theorem aN1{l:List ic}{v:Int×Int}(h:SP l i=M v):v.2≠0:=by
 grind[SP]
theorem OJ{l:List ic}:(if 4096<(a00 l:Int)then((4096,4):Int×Int)else(ff (SP l) l.length).getD (0,0)).2=0↔BK l:=by
 unfold BK;by_cases hl:4096<(a00 l:Int)
 .grind
 rw[p5 hl]
 cases h:ff (SP l) l.length with
 |none=>
  simp only[Option.getD_none,true_iff]
  grind[TQ,Xa]
 |some v=>
  grind[Oa,aN1,TQ]
def sgZ(p:ic):Int:=if p.a=1 then p.ad else if p.a=2\/p.a=3 then -p.ad else 0
def waZ(p:ic):Int:=if p.a=4 then p.ad else 0
def Nt(f:ic->Int) (m:Int):List ic->Int
 |[]=>0
 |p::l=>(if p.q=m then f p else 0)+Nt f m l
theorem kP{f:ic->Int}{m:Int}:∀{a b:List ic},Nt f m (a++b)=Nt f m a+Nt f m b
 |[],b=>by simp[Nt]
 |p::a,b=>by simp only[List.cons_append,Nt,kP (a:=a)];omega
theorem LR{f:ic->Int}{m:Int}:∀{l:List ic},(∀p∈l,p.q≠m)->Nt f m l=0
 |[],_=>rfl
 |p::l,h=>by
  rw[Nt,p5 (h p l5),LR λq hq=>h q o0];rfl
theorem ab0(h:Qw p):-1000000000000000<=sgZ p/\sgZ p<=1000000000000000:=by
 obtain⟨-,-,h,-⟩:=h
 grind[sgZ]
theorem PR(h:Qw p):0<=waZ p/\waZ p<=1000000000000000:=by
 obtain⟨-,-,h,-⟩:=h
 grind[waZ]
theorem lP{f:ic->Int}{m:Int}:∀{l:List ic},(∀p∈l,-1000000000000000<=f p/\f p<=1000000000000000)->-1000000000000000*(a00 l:Int)<=Nt f m l/\Nt f m l<=1000000000000000*(a00 l:Int)
 |[],_=>by simp[Nt]
 |p::l,h=>by
  have ih:=lP (m:=m) λq hq=>h q (tac _ hq)
  grind[Nt]
theorem bw7(h:Qw p):XL p=sgZ p:=by
 obtain⟨-,-,h,-⟩:=h
 grind[XL,sgZ,g!]
theorem pV(c:ic->Prop) [DecidablePred c] (v f:ic->Int) (m:Int):∀(l:List ic),(a00 l<=8200)->(∀p∈l,-1000000000000000<=f p/\f p<=1000000000000000)->(∀p∈l,(if c p then v p else 0)=if p.q=m then f p else 0)->
 l.foldl (λs p=>if c p then aa .i64 (s+v p)else s) 0=Nt f m l:=by
 intro l hl hb hc;have key:∀i,i<=a00 l->(l.take i).foldl (λs p=>if c p then aa .i64 (s+v p)else s) 0=Nt f m (l.take i):=by
  intro i
  induction i with
  |zero=>intro _;rfl
  |succ i g=>
   intro hi;have a:l[i]∈l:=y! hi;have e:=lP (m:=m) (l:=l.take i) λq hq=>hb q (Mab hq);have d:(l.take i).length=i:=o0
   rw[d]at e;have hbi:=hb _ a;have b:=hc _ a;rw[Gb hi,Sab,g U,kP];simp only[Z',jac,Nt];rw[←b];by_cases h:c l[i]
   .rw[J h]at b;rw[J h,J h,g! U U];omega
   simp_all
 have:=key l.length (x? _)
 simp_all
theorem vO{l:List ic}(hl:l.length<=8200) (a:∀p∈l,Qw p) (m:Int):sy m l=Nt sgZ m l:=
 pV (λp=>p.q=m) XL sgZ m l hl (λp h=>ab0 (a p h)) λp h=>by grind[bw7]
theorem mX{l:List ic}(hl:l.length<=8200) (a:∀p∈l,Qw p) (m:Int):xH m l=Nt waZ m l:=
 pV (λp=>p.q=m/\p.a=4) (·.ad) waZ m l hl (λp h=>by have:=PR (a p h);omega) λp h=>by
  grind[waZ]
theorem BK.post{l:List ic}(h:BK l):∀p∈l,Qw p:=by
 intro p a;obtain⟨i,hi,rfl⟩:=H' a;exact(h.2 i hi).1
theorem KD{m:Int}:∀{l:List ic},(∀p∈l,Qw p)->0<=Nt waZ m l
 |[],_=>Vad _
 |p::l,h=>by
  have ih:=KD (m:=m) λq hq=>h q (tac _ hq);have:=PR (h p l5)
  grind[Nt]
def EH(a:po):Prop:=0<=a.Id/\(0<=a.j/\a.j<a.To/\a.To<=3600/\a.To-a.j<=120)/\(0<=a.a1/\a.a1<=a.a8/\a.a8<=109572)/\(1<=a.az/\a.az<=6)/\(0<=a.ad/\a.ad<=1000000000000000)/\(a.ad=0\/a.az=3)
instance (a:po):Decidable (EH a):=by unfold EH;infer_instance
theorem vQ(a b:Int):Xj a b=M (s5 (0<=a/\a<b/\b<=3600/\b-a<=120)):=by
 grind[Xj,g!]
theorem MM(a:po):Hv a=M (s5 (EH a)):=by
 unfold Hv EH;rw[vQ];by_cases j:a.Id<0
 .grind
 have b:0<=a.Id:=U
 by_cases h2:0<=a.j/\a.j<a.To/\a.To<=3600/\a.To-a.j<=120
 case neg=>grind
 by_cases k:a.a1<0
 .grind
 have e:0<=a.a1:=U
 by_cases l:a.a8<a.a1
 .grind
 have f:a.a1<=a.a8:=U
 by_cases m:109572<a.a8
 .grind
 have g:a.a8<=109572:=U
 by_cases n:a.az<1
 .grind
 have h:1<=a.az:=U
 by_cases o:6<a.az
 .grind
 have i:a.az<=6:=U
 by_cases p:0<=a.ad<;>by_cases q:a.ad<=1000000000000000<;>by_cases c:a.ad=0<;>by_cases d:a.az=3<;>simp[j,h2,k,l,m,n,o,b,e,f,g,h,i,p,q,c,d]
def oG(c:ma) (m:Int):Prop:=c.ah<=m/\m<=min 3599 (aa .i64 (aa .i64 (c.ah+120)-1))
instance (c:ma) (m:Int):Decidable (oG c m):=by unfold oG;infer_instance
theorem S8(c:ma) (m:Int):Np c m=M (s5 (oG c m)):=by
 unfold Np oG
 grind
theorem an6(d:Int):Br d=M (s5 (0<=d/\d<=109572)):=by
 grind[Br]
structure U! (l:cb) (c:ma) (t:nb):Prop where
 cf:Ia l t.am.aj c=M 0
 hv:(hhV l t.am).2=0
 date:0<=t.z/\t.z<=109572
 last:t.as = -1\/oG c t.as
 led:BK t.ak
 mon:∀p∈t.ak,aS c t p.q=a36
 few:t.ao.length<=16
 app:∀i (h:i<a00 t.ao),EH t.ao[i]/\t.ao[i].Id=(i:Int)
 late:gR t=a36
theorem WR{t:nb}(h3:t.ao.length<=1048576):ca (mj t) 0=M (Ib () (ff (λi=>match t.ao[i]? with|some a=>if EH a/\a.Id=(i:Int)then q6 else M (13:Int)|none=>q6) t.ao.length)):=by
 refine xb (λi=>(i:Int)) _ t.ao.length () (λi hi _=>?_) (λ_=>?_)
 .unfold mj;rw[J,wa hi,a!,MM,n! hi,a!]
  grind[UD,pa]
 grind[mj]
theorem MG{l:cb}(hl:m? l) {c:ma}(hc:c.av.ar.length<=1048576) {t:nb}(w:t.am.ab.length<=1048576) (h2:t.ak.length<=1048576) (s:t.ao.length<=1048576) :
 ∃n,Ln l c t=M n/\(n=0↔U! l c t):=by
 obtain⟨n,x⟩:=JU hl hc t.am.aj;unfold Ln;rw[x,ji l t.am hl.ns];simp only[a!];by_cases j:n=0
 case neg=>
  rw[J j];refine⟨1,rfl,l5,λh=>absurd ?_ j⟩;have:=h.cf
  simp_all
 rw[p5 (v!.2 j)];by_cases hv:(hhV l t.am).2=0
 case neg=>rw[J hv];exact⟨_,rfl,λh=>absurd h hv,λh=>absurd h.hv hv⟩
 rw[p5 (v!.2 hv),an6,S8,a!];have hd:(b? (α:=Bool) (if s5 (0<=t.z/\t.z<=109572)=a35 then if¬t.as = -1 then(M (s5 (oG c t.as))).bind λy=>M (!y)else M a36 else M a35) λb=>M b)=M (s5 (¬((0<=t.z/\t.z<=109572)/\(t.as = -1\/oG c t.as)))):=by
  by_cases a1:0<=t.z/\t.z<=109572<;>by_cases a2:t.as = -1<;>by_cases a3:oG c t.as<;>simp[a1,a2,a3]
 rw[show∀o:Option Bool,(b? o λb=>M b)=o from λo=>l5]at hd;rw[hd,a!];by_cases a:(0<=t.z/\t.z<=109572)/\(t.as = -1\/oG c t.as)
 case neg=>
  rw[s6 a,J (rfl:a35=a35)];exact⟨3,rfl,l5,λh=>absurd ⟨h.date,h.last⟩ a⟩
 rw[u4 (v!.2 a),p5 l5,mI,a!];by_cases d:BK t.ak
 case neg=>
  rw[J (λe=>d (OJ.1 e))];exact⟨_,rfl,λe=>absurd (OJ.1 e) d,λh=>absurd h.led d⟩
 rw[p5 (v!.2 (OJ.2 d))];have k:=Vw (t.ak.map (·.q));rw[Bab]at k;rw[al5 h2,a!,gW h2 U,TX,a!];by_cases hm:(t.ak.any λp=>aS c t p.q)=a35
 .rw[J hm];refine⟨3,rfl,l5,λh=>?_⟩;obtain⟨p,q,r⟩:=Lac.1 hm;rw[h.mon p q]at r;grind
 rw[p5 hm];dsimp only;have m:∀p∈t.ak,aS c t p.q=a36:=λp d=>by
  simp_all
 by_cases ha:16<(a00 t.ao:Int)
 .rw[J ha];exact⟨4,rfl,l5,λh=>by have:=h.few;omega⟩
 rw[p5 ha,WR s,a!]
 cases hf:ff (λi=>match t.ao[i]? with|some a=>if EH a/\a.Id=(i:Int)then q6 else M (13:Int)|none=>q6) t.ao.length with
 |some v=>
  obtain⟨i,u,g,-⟩:=Oa.1 hf;rw[n! u]at g;dsimp only at g;split at g
  .grind
  .rename_i hx;obtain rfl:=J! g;exact⟨13,rfl,l5,λh=>absurd (h.app i u) hx⟩
 |none=>
  simp only[VJ];have f:∀i (h:i<a00 t.ao),EH t.ao[i]/\t.ao[i].Id=(i:Int):=λi hi=>by
   grind[Xa]
  rw[ao0 w h2 s,a!]
  cases hb:gR t with
  |true=>exact⟨9,rfl,l5,λh=>by have:=h.late;simp_all⟩
  |false=>exact⟨0,rfl,λ_=>⟨l4,hv,a.1,a.2,d,m,U,f,hb⟩,λ_=>rfl⟩
structure ζ (b:pr):Prop where
 due:0<=b.a2/\b.a2<=1000000000000000
 rcv:0<=b.a0/\b.a0<=1000000000000000
 wai:0<=b.a3/\b.a3<=1000000000000000
 mon:0<=b.q/\b.q<=3599
variable {b:pr}
def WX(b:pr):Int:=max (b.a2-b.a0) 0
def ZS(b:pr):Int:=max (b.a0-b.a2-b.a3) 0
theorem cp8(h:ζ b):Xi b=M (WX b):=by
 obtain⟨h1,h2,h3,h4⟩:=h
 grind[Xi,WX,g!]
theorem by9(h:ζ b):Me b=M (ZS b):=by
 obtain⟨h1,h2,h3,h4⟩:=h
 grind[Me,ZS,g!]
def by8(to d:Int) (l:List pr):List ic:=l.filterMap λb=>if b.q<=to/\0<WX b then M ⟨d,b.q,1,WX b⟩else q6
def cr7(l:List ic):Int:=(l.map (·.ad)).sum
def aO5(kind d:Int) (a:Int->Bool):Int->List pr->List ic×Int
 |rem,[]=>([],rem)
 |rem,b::bs=>if 0<rem then(if ZS b<=0\/a b.q=a35 then aO5 kind d a rem bs else(⟨d,b.q,kind,min (ZS b) rem⟩::(aO5 kind d a (rem-min (ZS b) rem) bs).1,(aO5 kind d a (rem-min (ZS b) rem) bs).2))else([],rem)
def upB(m:Int) (a:po):Bool:=s5 (a.az=3/\a.j<=m/\m<a.To)
def VP(A:List po) (m:Int):Option Int:=(A.reverse.find? (upB m)).map (·.ad)
theorem n8(hl:A.length<=1048576) (m:Int):Ji A m=M (match VP A m with|some c=>(c,a35)|none=>(0,a36)):=by
 have key:∀k,k<=a00 A->ca (Ve A m) ((k:Int)-1)=M (match ((A.take k).reverse.find? (upB m)).map (·.ad)with|some c=>.inr (c,a35)|none=>.inl ()):=by
  intro k
  induction k with
  |zero=>
   intro _;refine(Ob (b:=()) ?_).trans rfl;simp[Ve]
  |succ k ih=>
   intro hk;have a:Ve A m (((k+1:Nat):Int)-1)=M (if upB m A[k]=a35 then .ret (A[k].ad,a35)else .go ((k:Int)-1)):=by
    unfold Ve;rw[J,show((k+1:Nat):Int)-1=((k:Nat):Int) by omega,wa hk,a!,g! U U]
    grind[upB]
   rw[Gb hk,List.reverse_append,List.reverse_singleton,List.singleton_append,List.find?_cons]
   cases hu:upB m A[k]with
   |true=>
    rw[hu,J rfl]at a
    grind[ct]
   |false=>
    rw[hu,p5 l5]at a
    grind[Ie]
 have:=key A.length (x? _)
 grind[Ji,VP,g!]
def HJ(A:List po) (w:ka):ka:=match VP A w.q with|some c=>⟨w.q,c,0⟩|none=>w
theorem G0(hl:A.length<=1048576) {l:List ka}(hn:l.length<=1048576):Nj l A=M (l.map (HJ A)):=by
 unfold Nj;have:ca (Sg l A) (([]:List ka),0)=M (.inl (l.map (HJ A))):=by
  refine Uc (λi=>((l.take i).map (HJ A),(i:Int))) l.length _ (λi hi=>?_) ?_ rfl
  .unfold Sg;dsimp only;rw[J,wa hi,a!,n8 hl,a!];have hlen:((l.take i).map (HJ A)).length=i:=o0
   have a:(b? (α:=Int×Int) (if(match VP A l[i].q with|some c=>((c,a35):Int×Bool)|none=>(0,a36)).2=a35 then M ((match VP A l[i].q with|some c=>((c,a35):Int×Bool)|none=>(0,a36)).1,0)else M (l[i].ad,l[i].Code)) λx=>M (ka.mk l[i].q x.1 x.2))=M (HJ A l[i]):=by
    unfold HJ;cases VP A l[i].q<;>simp
   rw[Gb hi,Wab]
   cases h:VP A l[i].q with
   |some c=>
    rw[h]at a;simp only[w3,a!]at a⊢;rw[me o0,a!,pa U,F?,W?,J! a]
   |none=>
    rw[h]at a;simp only[t!,s7,a!]at a⊢;rw[me o0,a!,pa U,F?,W?,J! a]
  grind[Sg]
 simp_all
noncomputable def PG(l:cb) (c:ma) (t:nb) (to rec:Int):List pr:=(o? (to+1-c.ah).toNat).map λ(j:Nat)=>Qt t.ak (HJ t.ao (QD l t.am c (c.ah+j) rec))
theorem PC:(Qt P w).q=w.q:=rfl
theorem VG:(HJ A w).q=w.q:=by
 grind[HJ]
theorem tU{l:cb}{c:ma}{t:nb}{to:Int}:(PG l c t to rec).map (·.q)=(o? (to+1-c.ah).toNat).map λ(j:Nat)=>c.ah+(j:Int):=by
 simp_all[PG,PC,VG,pJ]
theorem jL(a:Int) (n:Nat):((o? n).map λ(j:Nat)=>a+(j:Int)).Nodup:=by
 grind[List.pairwise_lt_range]
theorem yM{l:cb}(hl:m? l) (a:E! l) {t:nb}(d:t.am.ab.length<=64) {c:ma}(hc:c.av.ar.length<=1048576) (e:t.ak.length<=1048576) (ha:t.ao.length<=1048576) {to:Int}(hf:0<=c.ah) (ht:to<c.ah+120) (rec:Int) :
 Eb l c t to rec=M (if to<c.ah\/3599<to then []else PG l c t to rec):=by
 unfold Eb;rw[orQ];by_cases h:to<c.ah\/3599<to
 .simp_all
 rw[u4 h,p5 l5,p5 h,g! U U,fU hl a d hc U rec,a!];have hn:(to+1-c.ah).toNat<=120:=U
 rw[p5 o0,G0 ha o0,a!];unfold Cr;have b:(((o? (to+1-c.ah).toNat).map λ(j:Nat)=>QD l t.am c (c.ah+j) rec).map (HJ t.ao)).map (λw=>w.q)=(o? (to+1-c.ah).toNat).map λ(j:Nat)=>c.ah+(j:Int):=by
  simp_all[VG,pJ]
 rw[J ⟨o0,e,by rw[b];simp[jL]⟩,a!];simp only[aaf];rfl
theorem jF{f:ic->Int}{m:Int}:∀{l:List ic},Nt f m (l.filter λp=>p.q==m)=Nt f m l
 |[]=>rfl
 |p::l=>by
  rw[ead];by_cases h:p.q=m
  .simp only[h,beq_self_eq_true,w3,Nt,jF (l:=l)]
  .simp only[R2,h,s7,Nt,jF (l:=l)];omega
theorem P5(m:Int) (l:List ic):ω m l=xH m l:=by
 grind[ω,xH,oad]
theorem aQ9(h:BK P) (w:ka):(Qt P w).a0=Nt sgZ w.q P/\(Qt P w).a3=Nt waZ w.q P:=by
 have hf:∀p∈P.filter (λp=>p.q==w.q),Qw p:=λp a=>h.post p (List.mem_filter.1 a).1;have hl:(P.filter λp=>p.q==w.q).length<=8200:=P' (List.length_filter_le _ _) (by have:=h.1;omega)
 grind[Qt,kT,vO,jF,P5,mX]
theorem lZ(h:BK P) (m:Int):0<=Nt sgZ m P:=by
 have key:∀k,k<=a00 P->0<=Nt sgZ m (P.take k):=by
  intro k
  induction k with
  |zero=>intro _;exact Vad _
  |succ k ih=>
   intro hk;by_cases hm:P[k].q=m
   .have:=(h.2 k hk).2.2;rw[hm,vO (by rw[bac];have:=h.1;omega) (λp a=>h.post p (Mab a))]at this;omega
   .rw[Gb hk,kP]
    grind[Nt]
 have:=key P.length (x? _)
 simp_all
theorem aR0{c:ma}{t:nb}(h:aS c t m=a36):c.ah<=m/\m<=t.as/\sy m t.ak<=1000000000000000/\xH m t.ak<=1000000000000000:=by
 simp_all[aS]
theorem aE0{l:cb}{c:ma}{t:nb}(h:U! l c t) (m:Int):Nt sgZ m t.ak<=1000000000000000/\Nt waZ m t.ak<=1000000000000000:=by
 by_cases he:∃p∈t.ak,p.q=m
 .obtain⟨p,b,rfl⟩:=he;obtain⟨-,-,a,h2⟩:=aR0 (h.mon p b);have hl:t.ak.length<=8200:=by have:=h.led.1;omega
  rw[vO hl h.led.post]at a;rw[mX hl h.led.post]at h2;omega
 grind[LR]
theorem aK9{x:Int}(h:VP A m=M x):∃a∈A,a.ad=x:=by
 unfold VP at h;obtain⟨a,ha,rfl⟩:=Option.map_eq_some_iff.1 h
 grind
theorem z6{l:cb}(hl:m? l) (b:E! l) {h:mu}(n:h.ab.length<=64) {c:ma}(hc:c.av.ar.length<=1048576) :0<=(QD l h c m rec).ad/\(QD l h c m rec).ad<=1000000000000000:=by
 by_cases a:(QD l h c m rec).Code=0
 case neg=>
  have:(QD l h c m rec).ad=0:=by
   unfold QD at a⊢;split
   .rfl
   .rename_i j;rw[p5 j]at a;split
    all_goals simp_all[aR4]
  omega
 obtain⟨f,g,k3⟩:=au9 a;obtain⟨v,q,t⟩:=GM hl (λx hx=>P' (b.s x hx) o4) (h:=h) U (c:=c) hc;rw[q,Τ]at g;obtain⟨i,H⟩:=t g;have hi:h.aj.toNat=i:=by have:=H.sc;omega
 rw[hi]at k3;rw[k3]at a⊢;dsimp only at a⊢;obtain⟨c1,-⟩:=XJ (l:=l) (h:=h) (rec:=rec) f b n;obtain⟨d2,d3,d4,d5⟩:=Q3 f;obtain⟨a1,a2⟩:=bs2 a;rw[a2];generalize dT l h m rec=P at *;have hds:=(Dr c1).1;have e:∀p∈P,-1000000000000000<=(Pb l i h c.u rec p.j).1.N/\(Pb l i h c.u rec p.j).1.N<=1000000000000000:=λp o=>wI H rec p.j (a1 p o);obtain⟨u,w⟩:=gJ (v:=λd=>(Pb l i h c.u rec d).1.N) c1 e;have k:1<=Hr P/\Hr P<=31:=U
 have:=OU (mode:=c.aw) k H.cf.r U u w;omega
theorem U!.appeals{l:cb}{c:ma}{t:nb}(h:U! l c t):∀a∈t.ao,EH a:=by
 intro a ha;obtain⟨i,hi,rfl⟩:=H' ha;exact(h.app i hi).1
theorem cp7{l:cb}(hl:m? l) (hfr:E! l) {t:nb}(hh:t.am.ab.length<=64) {c:ma}(hc:c.av.ar.length<=1048576) (ht:U! l c t) {to:Int}(hf:0<=c.ah) (hto:to<=3599):∀b∈PG l c t to rec,ζ b/\b.a0=Nt sgZ b.q t.ak/\b.a3=Nt waZ b.q t.ak/\c.ah<=b.q/\b.q<=to:=by
 intro b hb;obtain⟨j,hj,rfl⟩:=X'.1 hb;obtain⟨w,hw⟩:∃w,w=HJ t.ao (QD l t.am c (c.ah+j) rec):=⟨_,rfl⟩;rw[←hw];have hm:w.q=c.ah+j:=by grind[VG,pJ]
 have hjl:=List.mem_range.1 hj;obtain⟨e,f⟩:=aQ9 ht.led w;have h1:=lZ ht.led w.q;have h2:=aE0 ht w.q;have h3:=KD (m:=w.q) ht.led.post;refine⟨⟨?_,U,U,by grind[PC]⟩,e,f,by grind[PC],by grind[PC]⟩;have hd:(Qt t.ak w).a2=if w.Code=0 then w.ad else(Qt t.ak w).a0:=rfl;rw[hd];split
 .rw[hw];unfold HJ
  cases d:VP t.ao (QD l t.am c (c.ah+j) rec).q with
  |none=>simp_all[z6]
  |some x=>
   obtain⟨a,ha,rfl⟩:=aK9 d;exact(ht.appeals a ha).2.2.2.2.1
 omega
def bf0(c:ma) (to d:Int) (S:List Int) (lim:Int) (l:List pr):List ic:=by8 to d l++(aO5 2 d (λm=>s5 (m∈S)) lim l).1
theorem BV{t:nb}:gR t=a36↔(∀f∈t.am.ab,f.ai<=t.z)/\(∀p∈t.ak,p.z<=t.z)/\∀a∈t.ao,a.a1<=t.z:=by
 simp_all[gR]
structure cB5 (c:ma) (t:nb) (to:Int) (l:List pr):Prop where
 b:∀b∈l,ζ b/\b.a0=Nt sgZ b.q t.ak/\b.a3=Nt waZ b.q t.ak/\c.ah<=b.q/\b.q<=to
 nd:(l.map (·.q)).Nodup
 len:l.length<=120
variable {to:Int}
theorem cp6{l:cb}(hl:m? l) (a:E! l) {t:nb}(d:t.am.ab.length<=64) {c:ma}(hc:c.av.ar.length<=1048576) (ht:U! l c t) (hf:0<=c.ah) (b:to<=3599) (h2:to<c.ah+120):cB5 c t to (PG l c t to rec):=by
 refine⟨cp7 hl a d hc ht hf b,?_,?_⟩
 .simp_all[tU,jL]
 grind[PG]
section
variable {l:cb} {c:ma} {t:nb} {e:wt}
end
section
variable {l:cb} {c:ma} {t:nb} {e:wt}
inductive EvR (l:cb) (c:ma) (t:nb) (e:wt):List kv->List ic->List po->Int->Prop
 |fact (hk:e.a=1) (hr:e.a5.ai=e.z):EvR l c t e (t.am.ab++[e.a5]) t.ak t.ao t.as
 |pay (hk:e.a=2) (lim:Int) (S:List Int) (hm:oG c e.q/\t.as<=e.q) (hS:lG t.ao=M S/\S.length<=3600) (hlim:wO (cr7 (by8 e.q e.z (PG l c t e.q e.z))) c=M lim/\0<=lim) :
  EvR l c t e t.am.ab (t.ak++bf0 c e.q e.z S lim (PG l c t e.q e.z)) t.ao e.q
 |appeal (hk:e.a=3) (a:po):EvR l c t e t.am.ab t.ak (t.ao++[a]) t.as
 |s5 (hk:e.a=4) (A:List po) (hA:A.length=a00 t.ao/\t.ao≠[]):EvR l c t e t.am.ab t.ak A t.as
 |repay (hk:e.a=5) (Q:List ic) (hQ:(∀q∈Q,q.a=3)/\Q.length<=(t.as+1-c.ah).toNat):EvR l c t e t.am.ab (t.ak++Q) t.ao t.as
 |waive (hk:e.a=6) (q:ic) (hq:q.a=4):EvR l c t e t.am.ab (t.ak++[q]) t.ao t.as
end
def OT:ia:=⟨0,[⟨3,0,500⟩],[⟨0,0,0⟩],[],[],[]⟩
theorem I5:Ua 0=(⟨0,31⟩,0):=U?
theorem az6:kJ [eg] (-1) 0 0 9=(⟨3,0,500⟩,a35):=by
 rcases(DQ (l:=[eg]) l5 (-1) 0 0 9).2 with⟨-,e⟩|⟨f,h,e,-⟩
 .have:=e eg l5;exact absurd this o4
 .rw[ψ]at h;rw[e,h];rfl
theorem tK:Xu Xd Wi (xf [eg]) 0 9=(⟨0,[⟨3,0,500⟩],[]⟩,0):=by
 have hm:Wp (xf [eg]) 0 9=[]:=by
  unfold Wp;rw[show(min (max (xf [eg]).s 0) 8).toNat=0 from rfl];rfl
 grind[Xu,Ps,Wi,xf,az6]
theorem ac9:Jl [fr.mk 7 0] OT=M (⟨3,0,500⟩,0):=by
 have hw:X? [fr.mk 7 0]:=yK U?;have hN:∀n∈[fr.mk 7 0],Zb n:=by simp[Zb]
 have he:w? OT:=⟨by simp[OT],by simp[OT]⟩;have ha:Fj [fr.mk 7 0] 0=0:=o4
 rw[(ZZ hN he hw).1];show M (iM [fr.mk 7 0] OT 0)=_;rw[(ak3 hw hN he 0 o4).q];unfold evQ oJ;rw[p5 o4,ha];show M ((og ⟨7,0⟩ [] OT).getD (⟨0,0,0⟩,0))=_;unfold og;rw[BJ,lp,yB,av4 l5];rfl
theorem az4:tf Wi OT (-1) 0=M (0,YT):=by
 unfold tf;rw[Lu o4,a!,show tP Wi 0 OT.z=([0],[-1],[0]) by kernel_rfl];(try dsimp only);rw[show fD 1 a36 (([0]:List Int).length:Int) (([0]:List Int).length:Int)=M [a36] by rfl,a!,Ie (s':=([a35],1)) rfl,Ob (b:=[a35]) rfl,a!];(try dsimp only);rw[Cw,a!,show BT [-1] [0] [a35]=0 by kernel_rfl];rfl
theorem aa4:Ca Wi ⟨0,[⟨3,0,500⟩],[],[],[],[]⟩ (-1) [a35]=M (([0],YT),⟨0,[⟨3,0,500⟩],[⟨3,0,500⟩],[],[],[]⟩):=by
 unfold Ca;rw[show fD 24 (bz.mk 0 0 0) (a00 Wi.d:Int) (a00 Wi.d:Int)=M [⟨0,0,0⟩] by rfl,a!,show fD 8 (0:Int) (a00 Wi.d:Int) (a00 Wi.d:Int)=M [0] by rfl,a!,gp (Fz.s Wi (by simp[Xd])).2.1,a!,show sx (Fl Wi)=([0],0) by kernel_rfl];rw[Ie (s':=([⟨3,0,500⟩],[0],1)) (by
  unfold Dc;(try dsimp only);rw[J o4,show c! ([0]:List Int) 0=M 0 by rfl,a!,show c! [a35] 0=M a35 by rfl,a!,p5 o4];rw[show ia.mk 0 [⟨3,0,500⟩] [⟨0,0,0⟩] [] [] []=OT from rfl,az4,a!,p5 o4,p5 o4,p5 o4,show c! Wi.f 0=M YW by rfl,a!,show YW.Value=[fr.mk 7 0]from rfl,ac9];rfl),Ob (b:=([⟨3,0,500⟩],[0])) rfl]
 rfl
theorem H5:Cc Xd 0 ⟨0,[⟨3,0,500⟩],[]⟩ 0=M (⟨3,0,500⟩,0,YT):=by
 obtain⟨j,g⟩:=jM (l:=Xd) (h:=xf [eg]) (by rw[aJ]);have e:j=0:=by have:=g.sc;grind[xf]
 subst e;have f:(Qo Xd).Code=0:=by rw[uH]
 have a:=(lS Fz f g (d:=0) (r:=9) (def_:=0) (by grind[Xd,tK]) (by simp[Xd,Wi])).1;rw[show Xd.e[0]=Wi from rfl,tK]at a;have c:∀x∈Xd.e,a00 x.f<=64:=by simp[Xd,Wi]
 dsimp only at a;refine(CM Fz (oF f) c (i:=0) o4 (d:=0) (by simp[Xd,Wi]) a).trans ?_;rw[show S3 Xd 0 o4 0=⟨Wi,⟨ByteArray.mk #[],0,[],[],[]⟩,[a35],[]⟩ by kernel_rfl];unfold Ng;rw[Ob (b:=[]) rfl,a!];(try dsimp only);rw[Ob (b:=([],[])) rfl,a!];(try dsimp only);rw[show Ca Wi ⟨0,[⟨3,0,500⟩],[],[],[],Xd.Tables⟩ (-1) [a35]=_ from aa4];rfl
theorem ba2{l:List kv}(h:l=[]\/l=[eg]):AP Xd (xf l) 9=[]:=by
 rcases h with rfl|rfl<;>kernel_rfl
theorem az5:QD Xd (xf [eg]) sn 0 9=⟨0,500,0⟩:=by
 have b:Pb Xd 0 (xf [eg]) 0 9 0=(⟨3,0,500⟩,0):=by
  unfold Pb;rw[show Xd.e[0]?=M Wi from rfl];(try dsimp only);rw[tK,p5 o4];(try dsimp only);rw[show((0:Nat):Int)=0 from rfl,H5];rfl
 have a:dT Xd (xf [eg]) 0 9=[⟨0,31⟩]:=by unfold dT;rw[ba2 (.inr rfl),I5];rfl
 unfold QD;rw[I5,p5 o4,ZW aJ,Τ,p5 o4,a];unfold OD Cv;simp only[H!,L!,ff,ξ,F?,W?];rw[show(xf [eg]).aj.toNat=0 from rfl,show sn.u=0 from rfl,b];rfl
theorem G5:U! Xd sn ⟨xf [eg],[],[],0,-1⟩:=by
 refine⟨?_,by rw[aJ],l5,.inl rfl,⟨l5,λi h=>o0⟩,l5,l5,λi h=>o0,BV.2 ⟨by simp[xf,eg],l5,l5⟩⟩;unfold Ia;rw[nk Fz,uH,aX];rfl
def c1(q:ic):Int:=if q.a=1 then q.ad else 0
def c2(q:ic):Int:=if q.a=1 then 0 else q.ad
section
variable {l:cb} {c:ma} {t:nb} {to d lim:Int} {S:List Int}
end
def P6(d:Int) (b:pr):Option ic:=if 0<WX b then M ⟨d,b.q,1,WX b⟩else q6
def Q6(d:Int) (b:pr):Option ic:=if 0<ZS b then M ⟨d,b.q,3,ZS b⟩else q6
theorem Y1{f:pr->Option ic}(hi:i<a00 B):(B.take (i+1)).filterMap f=(B.take i).filterMap f++(f B[i]).toList:=by
 grind[List.take_append_getElem]
theorem bp9(hb:∀b∈B,ζ b) (hl:B.length<=120):ca (Ej d B) (([]:List ic),0)=M (.inl (B.filterMap (P6 d))):=by
 refine Uc (λi=>((B.take i).filterMap (P6 d),(i:Int))) B.length _ (λi hi=>?_) ?_ rfl
 .have a:=cp8 (hb _ (y! hi));have h2:=Sad (P6 d) (B.take i);rw[bac]at h2;unfold Ej;dsimp only;rw[J,wa hi,a!,a,a!,Y1 hi];by_cases h:0<WX B[i]
  .rw[J h,me o0,a!,a!,pa U,P6,J h];rfl
  .rw[p5 h,a!,pa U,P6,p5 h,Aae,V!]
 simp_all[Ej]
theorem bq0(hb:∀b∈B,ζ b) (hl:B.length<=120) (hP:P.length<=120):ca (Dj d B) (P,0)=M (.inl (P++B.filterMap (Q6 d))):=by
 refine Uc (λi=>(P++(B.take i).filterMap (Q6 d),(i:Int))) B.length _ (λi hi=>?_) ?_ l5
 .have a:=by9 (hb _ (y! hi));have h2:=Sad (Q6 d) (B.take i);rw[bac]at h2;unfold Dj;dsimp only;rw[J,wa hi,a!,a,a!,Y1 hi];by_cases h:0<ZS B[i]
  .rw[J h,me o0,a!,a!,pa U,Q6,J h,List.append_assoc];rfl
  .rw[p5 h,a!,pa U,Q6,p5 h,Aae,V!]
 simp_all[Dj]
section
variable {l:cb} {c:ma} {t:nb} {d:Int}
end
theorem aa9{l:cb}{c:ma}{t:nb}:∃b,fv l c t=M b/\(b=a35->S? l/\c.av.ar.length<=70/\t.am.ab.length<=64/\t.ak.length<=200/\t.ao.length<=20):=by
 obtain⟨b1,s1⟩:∃b,Pj c t.as=M b:=by
  unfold Pj;split
  .split<;>exact⟨_,rfl⟩
  simp
 unfold fv Jt cr Jn;obtain⟨b,hb,hb2⟩:=WL l;rw[hb,s1]
 cases b with
 |false=>simp
 |true=>
  by_cases hc:(a00 c.av.ar:Int)<=70
  case neg=>grind
  by_cases hh:(a00 t.am.ab:Int)<=40
  case neg=>grind
  by_cases hp:(a00 t.ak:Int)<=200
  all_goals grind
section
variable {l:cb} {c:ma} {t:nb} {d:Int}
end
theorem aA0:kJ [eg] (-1) 0 0 3=(⟨3,0,500⟩,a35):=by
 rcases(DQ (l:=[eg]) l5 (-1) 0 0 3).2 with⟨-,e⟩|⟨f,h,e,-⟩
 .have:=e eg l5;exact absurd this o4
 .rw[ψ]at h;rw[e,h];rfl
theorem aa7:Xu Xd Wi (xf [eg]) 0 3=(⟨0,[⟨3,0,500⟩],[]⟩,0):=by
 have hm:Wp (xf [eg]) 0 3=[]:=by
  unfold Wp;rw[show(min (max (xf [eg]).s 0) 8).toNat=0 from rfl];rfl
 grind[Xu,Ps,Wi,xf,aA0]
theorem ba4{l:List kv}(h:l=[]\/l=[eg]):AP Xd (xf l) 3=[]:=by
 rcases h with rfl|rfl<;>kernel_rfl
theorem az9:QD Xd (xf [eg]) sn 0 3=⟨0,500,0⟩:=by
 have b:Pb Xd 0 (xf [eg]) 0 3 0=(⟨3,0,500⟩,0):=by
  unfold Pb;rw[show Xd.e[0]?=M Wi from rfl];(try dsimp only);rw[aa7,p5 o4];(try dsimp only);rw[show((0:Nat):Int)=0 from rfl,H5];rfl
 have a:dT Xd (xf [eg]) 0 3=[⟨0,31⟩]:=by unfold dT;rw[ba4 (.inr rfl),I5];rfl
 unfold QD;rw[I5,p5 o4,ZW aJ,Τ,p5 o4,a];unfold OD Cv;simp only[H!,L!,ff,ξ,F?,W?];rw[show(xf [eg]).aj.toNat=0 from rfl,show sn.u=0 from rfl,b];rfl
theorem rP:PG Xd sn ⟨xf [eg],P,[],d,m⟩ 0 9=[Qt P ⟨0,500,0⟩]:=by
 unfold PG;rw[show((0:Int)+1-sn.ah).toNat=1 from rfl];simp only[Sae,F?,W?];rw[show sn.ah+((0:Nat):Int)=0 from rfl,az5];rfl
theorem az8:PG Xd sn ⟨xf [eg],P,[],d,m⟩ 0 3=[Qt P ⟨0,500,0⟩]:=by
 unfold PG;rw[show((0:Int)+1-sn.ah).toNat=1 from rfl];simp only[Sae,F?,W?];rw[show sn.ah+((0:Nat):Int)=0 from rfl,az9];rfl
theorem MT{r:Int}(hP:P.length<=1048576):Eb Xd sn ⟨xf [eg],P,[],d,0⟩ 0 r=M (PG Xd sn ⟨xf [eg],P,[],d,0⟩ 0 r):=by
 simp_all[xf,sn,yM,Fz,cX]
theorem F5:U! Xd sn ⟨xf [eg],[],[],3,0⟩:=
 ⟨G5.cf,G5.hv,l5,.inr o4,⟨l5,λi h=>o0⟩,l5,l5,λi h=>o0,BV.2 ⟨by simp[xf,eg],l5,l5⟩⟩
theorem aa6:Oo Xd sn ⟨xf [eg],[],[],3,0⟩ 9=M (⟨xf [eg],[⟨9,0,1,500⟩],[],9,0⟩,0):=by
 obtain⟨n,f,g⟩:=MG Fz (c:=sn) (by simp[sn]) (t:=⟨xf [eg],[],[],3,0⟩) (by simp[xf]) l5 l5;have a:∀b∈[Qt [] (⟨0,500,0⟩:ka)],ζ b:=by
  have:=cp6 Fz cX (t:=⟨xf [eg],[],[],3,0⟩) (by simp[xf]) (c:=sn) (by simp[sn]) F5 (to:=0) (rec:=9) (by simp[sn]) l5 (by simp[sn]);rw[rP]at this;exact λb hb=>(this.b b hb).1
 unfold Oo;rw[f,g.2 F5,a!,p5 l5,J l5,a!,u4 l5,p5 l5,p5 l5];dsimp only;rw[MT l5,rP,a!,bp9 a l5,a!];dsimp only;have d:[Qt [] (⟨0,500,0⟩:ka)].filterMap (P6 9)=[⟨9,0,1,500⟩]:=U?
 have e:[Qt [] (⟨0,500,0⟩:ka)].filterMap (Q6 9)=[]:=U?
 rw[d,bq0 a l5 l5,e,a!];rfl
theorem ba3:Za Xd sn ⟨xf [eg],[],[],3,0⟩=M a36:=by
 unfold Za;dsimp only;rw[MT l5,az8,a!];unfold Zh;rw[Ie (s':=(500,0,1)) U?,Ob (b:=(500,0)) U?];rfl
theorem az7:Za Xd sn ⟨xf [eg],[⟨9,0,1,500⟩],[],9,0⟩=M a35:=by
 unfold Za;dsimp only;rw[MT l5,rP,a!];unfold Zh;rw[Ie (s':=(0,0,1)) U?,Ob (b:=(0,0)) U?];rfl
theorem IP:Mr=M a35:=by
 unfold Mr;rw[show Ez [fr.mk 7 0]=M Xd from rfl,a!,show mu.mk 0 0 0 [kv.mk 0 (-1) 0 (bz.mk 3 0 500) (hO.mk 0 109573) 0]=xf [eg]from rfl,show ma.mk 0 0 1 0 0 0 0 (tk.mk 0 [])=sn from rfl,aa6,a!];dsimp only;rw[J rfl,ba3,a!,J rfl,az7,a!,J rfl];have h:Db ⟨xf [eg],[⟨9,0,1,500⟩],[],9,0⟩=M 500:=by
  unfold Db iv;rw[J l5]
  kernel_rfl
 simp_all
section
variable {l:cb} {c:ma} {t:nb} {d:Int}
end
section
variable {l:cb} {h:mu} {c:ma} {t:nb}
theorem yZ(hl:m? l) (d:E! l) (f:h.ab.length<=64) (hc:c.av.ar.length<=1048576) (hv:Yo l h c=M a35) (hm:0<=m/\m<=3599) (rec:Int) :
 ∃a b,Ue h.ab rec=M a/\Se l=M b/\Vj l h c m rec a b=M (QD l h c m rec):=by
 have e:=(HP hl d f hc m rec).2;unfold lA at e;rw[fQ,u4 U,p5 l5,hv,a!,p5 l5]at e;obtain⟨a,h1,e⟩:=Rl e;obtain⟨b,h2,e⟩:=Rl e
 simp_all
theorem uW(hl:m? l) (d:E! l) (g:h.ab.length<=64) (hc:c.av.ar.length<=1048576) (hv:Yo l h c=M a35) {b:Int}(hab:0<=a/\a<=b/\b<=3600) (rec:Int) :
 Di l h c a b rec=M ((o? (b-a).toNat).map λ(j:Nat)=>QD l h c (a+j) rec):=by
 obtain⟨-,-,-,x,y,e,f,-⟩:=bq1 (l:=l) (h:=h) rec d g;unfold Di;rw[e,a!,f,a!];have:ca (Zf l h c b rec x y) (([]:List ka),a)=M (.inl ((o? (b-a).toNat).map λ(j:Nat)=>QD l h c (a+j) rec)):=by
  refine Uc (λj=>((o? j).map λ(j:Nat)=>QD l h c (a+j) rec,a+(j:Int))) (b-a).toNat _ (λj hj=>?_) ?_ l5
  .obtain⟨x',y',g1,g2,g3⟩:=yZ hl d g hc hv (m:=a+(j:Int)) U rec;rw[e]at g1;rw[f]at g2;cases g1;cases g2;unfold Zf;dsimp only;rw[J,g3,a!,me o0,a!,g! U U,show a+(j:Int)+1=a+((j+1:Nat):Int) by omega]
   grind[nac]
  grind[Zf]
 simp_all
theorem OO(hl:m? l) (e:E! l) (g:h.ab.length<=64) (hc:c.av.ar.length<=1048576) {b:Int}(d:0<=a/\a<=b/\b<=3600/\b-a<=120) (rec:Int) :
 kj l h c a b rec=M ((o? (b-a).toNat).map λ(j:Nat)=>QD l h c (a+j) rec):=by
 unfold kj;rw[J (show¬a<0 by omega),J (show¬b<a by omega),J (show¬3600<b by omega),g! (n:=b-a) U U,u4 U,a!,p5 l5];obtain⟨v,v1,f,-⟩:=HM hl (λx hx=>P' (e.s x hx) o4) (h:=h) U hc;rw[f,a!]
 cases v with
 |true=>rw[J rfl,uW hl e g hc f ⟨d.1,d.2.1,d.2.2.1⟩ rec,a!]
 |false=>
  rw[p5 l5];have:ca (Sk b) (([]:List ka),a)=M (.inl ((o? (b-a).toNat).map λ(j:Nat)=>QD l h c (a+j) rec)):=by
   refine Uc (λj=>((o? j).map λ(j:Nat)=>QD l h c (a+j) rec,a+(j:Int))) (b-a).toNat _ (λj hj=>?_) ?_ l5
   .have hw:QD l h c (a+(j:Int)) rec=⟨a+(j:Int),0,1⟩:=by
     have hm:(Ua (a+(j:Int))).2=0:=zR.2 U;unfold QD
     simp_all
    unfold Sk;dsimp only;rw[J,me o0,a!,g! U U,show a+(j:Int)+1=a+((j+1:Nat):Int) by omega]
    grind[nac]
   grind[Sk]
  simp_all
end
theorem xZ(A:List po) (m:Int):vu A m=Ji A m:=by
 have:Ht A m=Ve A m:=by
  grind[Ht,Ve,Cz,c!]
 grind[vu,Ji]
theorem wZ(hl:A.length<=1048576) {l:List ka}(hn:l.length<=1048576):Ey l A=M (l.map (HJ A)):=by
 rw[←G0 hl hn];have:Aw l A=Sg l A:=by
  funext ⟨a,i⟩;unfold Aw Sg;dsimp only;simp only[xZ];split
  .cases hi:c! l i with
   |none=>rfl
   |some x=>
    simp only[a!]
    cases Ji A x.q with
    |none=>rfl
    |some y=>cases b:y.2<;>simp[b]
  .rfl
 grind[Ey,Nj]
theorem kW:sy m (P.filter λp=>p.q==m)=sy m P:=by
 grind[sy,oad]
theorem lX:xH m (P.filter λp=>p.q==m)=xH m P:=by
 grind[xH,oad]
theorem aD9(b:P.length<=1048576) {l:List ka}(hn:l.length<=1048576):XE l P=M (l.map (Qt P)):=by
 unfold XE;have:ca (Dy l P) (([]:List pr),0)=M (.inl (l.map (Qt P))):=by
  refine Uc (λi=>((l.take i).map (Qt P),(i:Int))) l.length _ (λi hi=>?_) ?_ rfl
  .unfold Dy;dsimp only;have hlen:((l.take i).map (Qt P)).length=i:=o0
   have hb:Qt P l[i]=⟨l[i].q,if l[i].Code=0 then l[i].ad else sy l[i].q P,sy l[i].q P,xH l[i].q P⟩:=by
    grind[Qt,kT,P5,kW,lX]
   rw[J,wa hi,a!,lK b,a!,NO b,a!,Gb hi,Wab];by_cases a:l[i].Code=0
   .rw[p5 (v!.2 a),a!,me o0,a!,pa U,F?,W?,hb,J a]
   .rw[J a,a!,me o0,a!,pa U,F?,W?,hb,p5 a]
  grind[Dy]
 simp_all
theorem qQ{l:cb}(hl:m? l) (a:E! l) {t:nb}(b:t.am.ab.length<=64) {c:ma}(hc:c.av.ar.length<=1048576) (d:t.ak.length<=1048576) (ha:t.ao.length<=1048576) (hf:0<=c.ah) (ht:to<c.ah+120) (rec:Int) :
 Ei l c t to rec=M (if to<c.ah\/3599<to then []else PG l c t to rec):=by
 unfold Ei;rw[fQ];by_cases h:to<c.ah\/3599<to
 .simp_all
 rw[u4 h,p5 l5,p5 h,g! U U,OO hl a b hc U rec,a!];rw[p5 o0,wZ ha o0,a!,aD9 d o0,a!];simp only[aaf];rfl
theorem au8{l:cb}(hl:m? l) (a:E! l) {t:nb}(d:t.am.ab.length<=64) {c:ma}(hc:c.av.ar.length<=1048576) (e:t.ak.length<=1048576) (ha:t.ao.length<=1048576) (ht:0<=c.ah->to<c.ah\/3599<to\/to<c.ah+120) (rec:Int) :
 ∃B,Eb l c t to rec=M B/\Ei l c t to rec=M B/\B.length<=120:=by
 by_cases h:to<c.ah\/3599<to
 .refine⟨[],?_,?_,l5⟩
  .unfold Eb;rw[orQ,s6 h,J (rfl:a35=a35)]
  .unfold Ei;rw[fQ,s6 h,J (rfl:a35=a35)]
 by_cases hf:0<=c.ah
 .have:=ht hf;refine⟨_,yM hl a d hc e ha hf U rec,qQ hl a d hc e ha hf U rec,?_⟩;rw[p5 h];unfold PG;simp only[Bab,List.length_range];omega
 .have f:∀b r,Zd l t.am c c.ah b r=M []:=λb r=>by
   unfold Zd;rw[p5,a!,J rfl]
  have h2:∀b r,kj l t.am c c.ah b r=M []:=λb r=>by
   unfold kj;rw[p5,a!,J rfl]
  refine⟨[],?_,?_,l5⟩
  .unfold Eb;rw[orQ,u4 h,p5 l5,f,a!,J l5]
  .unfold Ei;rw[fQ,u4 h,p5 l5,h2,a!,J l5]
theorem MZ{c:ma}(h:Pj c m=M a35) (hf:0<=c.ah):m<c.ah\/3599<m\/m<c.ah+120:=by
 by_cases h3:m<c.ah\/3599<m
 .omega
 have:aa .i64 (m-c.ah)<8:=by
  unfold Pj at h;rw[J hf,J,a!]at h;simpa using h
 rw[g! U U]at this;omega
def CU(f t:Int) (l:List ic):Int:=l.foldl (λs p=>if(s5 (f<=p.z)&&s5 (p.z<t))=a35 then aa .i64 (s+XL p)else s) 0
theorem MR(q:ic->Bool):∀l:List ic,((l.filter λp=>p.a==1).map λp=>if q p=a35 then ND p else 0).sum+((l.filter λp=>p.a==2).map λp=>if q p=a35 then ND p else 0).sum+((l.filter λp=>p.a==3).map λp=>if q p=a35 then ND p else 0).sum=(l.map λp=>if q p=a35 then XL p else 0).sum
 |[]=>rfl
 |p::l=>by
  have d:=MR q l;have h0:¬p.a=1->¬p.a=2->¬p.a=3->XL p=0:=λa b c=>by simp_all[XL]
  simp only[ead,F?,Wad,R2,F0]at d⊢
  grind
theorem at5(f t:Int) (l:List ic):DU f t l [1,2,3]=CU f t l:=by
 have a:CU f t l=aa .i64 (0+(l.map λp=>if(s5 (f<=p.z)&&s5 (p.z<t))=a35 then XL p else 0).sum):=by
  rw[←Lz (λp=>s5 (f<=p.z)&&s5 (p.z<t)) XL l 0,w0];rfl
 unfold DU;simp only[Z',jac];have e0:(λ(s:Int) (p:ic)=>if f<=p.z/\p.z<t then aa .i64 (s+ND p)else s)=λs p=>if(s5 (f<=p.z)&&s5 (p.z<t))=a35 then aa .i64 (s+ND p)else s:=by
  funext s p;simp
 simp only[e0];have e:∀k s,(l.filter λp=>p.a==k).foldl (λs p=>if(s5 (f<=p.z)&&s5 (p.z<t))=a35 then aa .i64 (s+ND p)else s) (aa .i64 s)=_:=λk s=>Lz (λp:ic=>s5 (f<=p.z)&&s5 (p.z<t)) ND _ s;rw[←w0,e,e,e,a,←MR (λp=>s5 (f<=p.z)&&s5 (p.z<t)) l];simp
theorem T9{l:List ic}(hl:l.length<=1048576) {r:hO}(hr:0<=r.j/\r.j<=r.To/\r.To<=109573):mA l r=M (CU r.j r.To l):=by
 unfold mA;rw[J (show¬r.j<0 by omega),J (show¬r.To<r.j by omega),u4 U,a!,p5 l5];have:ca (uu l r) (0,0)=M (.inl (CU r.j r.To l)):=by
  refine Uc (λi=>(CU r.j r.To (l.take i),(i:Int))) l.length _ (λi hi=>?_) ?_ rfl
  .unfold uu;dsimp only;rw[J,wa hi,a!,a!,WE,a!,Gb hi];unfold CU;rw[Sab,Z',jac];by_cases a:r.j<=l[i].z<;>by_cases h2:l[i].z<r.To<;>simp[a,h2,pa (show i<4611686018427387904 by omega)]
  .simp[uu]
 rw[this,a!]
theorem xU(hl:P.length<=200):∃b,Zt P=M b:=by
 unfold Zt;have:ca (Yn P) 0=M (Ib () (ff (λi=>match P[i]? with|some p=>if p.ad<0\/17592186044416<p.ad then M a36 else q6|none=>q6) P.length)):=by
  refine xb (λi=>(i:Int)) _ P.length () (λi hi _=>?_) (λ_=>?_)
  .unfold Yn;rw[J,a!,s6 U,J rfl,wa hi,a!,orQ,n! hi];dsimp only;by_cases h:P[i].ad<0\/17592186044416<P[i].ad
   .rw[s6 h,J rfl,J h];rfl
   .rw[u4 h,p5 l5,p5 h,pa U];rfl
  .simp[Yn]
 rw[this,a!];cases ff (λi=>match P[i]? with|some p=>if p.ad<0\/17592186044416<p.ad then M a36 else q6|none=>q6) P.length<;>exact⟨_,rfl⟩
theorem UY{P:List po}(hl:P.length<=200):∃b,Sv P=M b:=by
 unfold Sv;have:ca (Tp P) 0=M (Ib () (ff (λi=>match P[i]? with|some p=>if p.ad<0\/17592186044416<p.ad then M a36 else q6|none=>q6) P.length)):=by
  refine xb (λi=>(i:Int)) _ P.length () (λi hi _=>?_) (λ_=>?_)
  .unfold Tp;rw[J,wa hi,a!,orQ,n! hi];dsimp only;by_cases h:P[i].ad<0\/17592186044416<P[i].ad
   .rw[s6 h,J rfl,J h];rfl
   .rw[u4 h,p5 l5,p5 h,pa U];rfl
  .simp[Tp]
 rw[this,a!];cases ff (λi=>match P[i]? with|some p=>if p.ad<0\/17592186044416<p.ad then M a36 else q6|none=>q6) P.length<;>exact⟨_,rfl⟩
theorem WZ(hl:B.length<=120):∃r,Zh B=M r:=by
 unfold Zh;have:∃r,ca (Mi B) (0,0,0)=M (.inl r):=by
  have key:∀k i x y,i+k=a00 B->∃r,ca (Mi B) (x,y,(i:Int))=M (.inl r):=by
   intro k
   induction k with
   |zero=>
    intro i x y h;refine⟨(x,y),Ob ?_⟩;unfold Mi;dsimp only;rw[p5]
   |succ k a=>
    intro i x y h;have hi:i<a00 B:=U
    obtain⟨r,hr⟩:=a (i+1) (aa .i64 (x+max (aa .i64 (B[i].a2-B[i].a0)) 0)) (aa .i64 (y+max (aa .i64 (aa .i64 (B[i].a0-B[i].a2)-B[i].a3)) 0)) U;refine⟨r,(Ie ?_).trans hr⟩;unfold Mi Xi Me;dsimp only;rw[J,wa hi,a!,a!,a!,pa U]
  exact key B.length 0 0 0 U
 obtain⟨r,hr⟩:=this;exact⟨r,by rw[hr];rfl⟩
def U9(B:List pr):Bz B=Zh B:=rfl
theorem OB(e:Mr=M a35) {l:cb}(v:cq7 l) (k:aw8 l) (c:ma) (t:nb):Sf l c t=M a35:=by
 unfold Sf;obtain⟨b,hb,f⟩:=aa9 (l:=l) (c:=c) (t:=t);rw[hb,e,a!]
 cases b with
 |false=>rfl
 |true=>
  obtain⟨a,hc,hh,hp,ha⟩:=f rfl;have hf:E! l:=⟨a.nt,a.ns,a.rows v,λs g=>(a.s s g).rules⟩;have hl:=a.ok k;have i:Pj c t.as=M a35:=by
   obtain⟨d,s1⟩:∃b,Pj c t.as=M b:=by
    unfold Pj;split
    .split<;>exact⟨_,rfl⟩
    .exact⟨_,rfl⟩
   rw[s1];unfold fv at hb;rw[s1]at hb
   cases d with
   |true=>rfl
   |false=>
    exfalso;obtain⟨j,hj,hb⟩:=Rl hb;obtain rfl:=J! hb;obtain⟨x1,h1,hj⟩:=Rl hj;split at hj
    .obtain⟨x2,h2,hj⟩:=Rl hj;split at hj
     .obtain⟨x3,h3,hj⟩:=Rl hj;split at hj<;>cases hj
     .cases hj
    .cases hj
  obtain⟨d,e1⟩:=xU (P:=t.ak) U;obtain⟨u,e2⟩:=UY (P:=t.ao) U;rw[J (rfl:a35=a35),e1,e2];have fin:(b? (α:=Bool) ((Za l c t).bind λy=>(Nl l c t).bind λn=>if y=n then(Db t).bind λo=>(Ui t).bind λp=>if o=p then(M a35).bind λq=>M q else M a36 else M a36) λm=>M m)=M a35:=by
   obtain⟨B,g1,g2,g3⟩:=au8 hl hf (c:=c) (t:=t) U U U U (to:=t.as) (λh=>MZ i h) t.z;obtain⟨r,hr⟩:=WZ g3;have s1:∃b,Za l c t=M b/\Nl l c t=M b:=by
    unfold Za Nl;rw[g1,g2,a!,a!,U9,hr,a!];by_cases h:r.1=0
    .rw[J h];exact⟨_,rfl,rfl⟩
    .rw[p5 h];exact⟨_,rfl,rfl⟩
   obtain⟨b,s1,s2⟩:=s1;have w:Db t=M (CU 0 109573 t.ak):=by
    unfold Db iv;rw[J ⟨U,o4,o4,o4⟩,a!,at5]
   have x:Ui t=M (CU 0 109573 t.ak):=by
    unfold Ui;rw[T9 U ⟨o4,o4,o4⟩,a!]
   rw[s1,s2,w,x,a!,a!,J rfl,a!,a!,J rfl];rfl
  cases d with
  |false=>rfl
  |true=>
   rw[a!,J rfl,a!]
   cases u with
   |false=>rfl
   |true=>
    rw[a!,p5 l5];exact fin
end Go.Proofs.Dev
