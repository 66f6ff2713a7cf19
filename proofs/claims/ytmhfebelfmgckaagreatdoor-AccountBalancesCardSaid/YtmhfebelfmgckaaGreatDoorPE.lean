/-
  The functions as plain partial functions, and plain lemmas about them: no condition.
-/
import Derived.Test.YtmhfebelfmgckaaGreatDoorPD
open Option renaming some->M,none->s5
open Decidable renaming decide->s6
open Bool renaming false_eq_true->t!,true->a38,false->a39
open Classical renaming not_not->v!
open Int renaming le_refl->iae
open List renaming any_eq_true->Yac,filter_cons->Jad,foldl_append->Gac,foldl_cons->Γ,foldl_filter->Cad,foldl_nil->rad,getElem?_eq_getElem->n!,getElem_mem->y!,getElem_of_mem->H',length_cons->G!,length_map->Mab,length_take->Aac,map_append->eac,map_cons->D?,map_map->maf,map_nil->R?,mem_cons_of_mem->Dac,mem_map->V!,mem_of_mem_take->Rab,range->p!,range_succ->uac,replicate->k?,sum_cons->jae,length->a00
open Nat renaming le_refl->x?,le_trans->N?
open Option renaming bind->b?,bind_some->a!,getD_some->κ
open Option.some renaming inj->J'
set_option linter.all false
set_option maxRecDepth 10000
set_option maxHeartbeats 1000000
namespace Go.Proofs.Dev
open Go Go.Tm
variable {m rec:Int}{p:hO}{α ρ:Type}{i:Nat}{x:α}{A:List oe}{P:List hO}{w:ke}{S:List Int}
theorem wrap_i64(n:Int):aa .i64 n=(n+9223372036854775808) % 18446744073709551616-9223372036854775808:=by
 show VL n 9223372036854775808 18446744073709551616=_;unfold VL
 grind
theorem aa8(a b:Int):aa .i64 (aa .i64 a+b)=aa .i64 (a+b):=by
 grind[wrap_i64]
def mU(p:hO):Int:=if p.a=1 then p.ae else if p.a=2\/p.a=3 then aa .i64 (-p.ae)else 0
theorem pM(p:hO):lu p=M (mU p):=by
 grind[lu,mU]
theorem tP(p:hO):Dw p=M (mU p):=by
 grind[Dw,mU]
def Jy(m:Int) (l:List hO):Int:=l.foldl (λs p=>if p.j=m then aa .i64 (s+mU p)else s) 0
def XH(m:Int) (l:List hO):Int:=l.foldl (λs p=>if p.j=m/\p.a=4 then aa .i64 (s+p.ae)else s) 0
theorem SK{l:List hO}(hl:l.length<=1048576) (m:Int):Ns l m=M (Jy m l):=by
 unfold Ns;have:ca (Vm l m) (0,0)=M (.inl (Jy m l)):=by
  refine Nc (λi=>(Jy m (l.take i),(i:Int))) l.length _ (λi hi=>?_) ?_ rfl
  .unfold Vm;dsimp only;rw[J,va hi,Fb hi]
   grind[Jy,tP,pa]
  grind[Vm]
 grind
theorem sP{l:List hO}(hl:l.length<=1048576) (m:Int):Cw l m=M (XH m l):=by
 unfold Cw;have:ca (Gq l m) (0,0)=M (.inl (XH m l)):=by
  refine Nc (λi=>(XH m (l.take i),(i:Int))) l.length _ (λi hi=>?_) ?_ rfl
  .unfold Gq;dsimp only;rw[J,va hi,Fb hi]
   grind[XH,pa]
  grind[Gq]
 grind
theorem dG{α:Type}(c:α->Bool) (v:α->Int):∀(l:List α) (s:Int),l.foldl (λs p=>if c p=a38 then aa .i64 (s+v p)else s) (aa .i64 s)=aa .i64 (s+(l.map λp=>if c p=a38 then v p else 0).sum)
 |[],s=>o0
 |p::l,s=>by
  simp only[Γ,D?,jae];by_cases h:c p=a38
  .simp only[h,D1];rw[aa8,dG c v l]
   grind
  .simp only[h,u4,t!];rw[dG c v l];simp
theorem aS0(p:hO):zN p=mU p:=by
 grind[zN,mU]
theorem sX(m:Int):∀l:List hO,((l.filter λp=>p.a==1).map λp=>if(p.j==m)=a38 then zN p else 0).sum+((l.filter λp=>p.a==2).map λp=>if(p.j==m)=a38 then zN p else 0).sum+((l.filter λp=>p.a==3).map λp=>if(p.j==m)=a38 then zN p else 0).sum=(l.map λp=>if(p.j==m)=a38 then mU p else 0).sum
 |[]=>rfl
 |p::l=>by
  have d:=sX m l;have h0:¬p.a=1->¬p.a=2->¬p.a=3->mU p=0:=λa b c=>by grind[mU]
  simp only[Jad,D?,jae,aaA,aS0]at d⊢
  grind
theorem w0:aa .i64 0=0:=p5
theorem ZT(m:Int) (l:List hO):ZO m l [1,2,3]=Jy m l:=by
 have a:Jy m l=aa .i64 (0+(l.map λp=>if(p.j==m)=a38 then mU p else 0).sum):=by
  rw[←dG (λp=>p.j==m) mU l 0,w0]
  grind[Jy]
 unfold ZO;simp only[Γ,rad];have e:∀k s,(l.filter λp=>p.a==k).foldl (λs p=>if(p.j==m)=a38 then aa .i64 (s+zN p)else s) (aa .i64 s)=_:=λk s=>dG (λp:hO=>p.j==m) zN _ s;rw[←w0,e,e,e,a,←sX m l];simp
theorem SI{l:List hO}(hl:l.length<=1048576) (m:Int):Sg l m=M (Jy m l):=by
 unfold Sg;rw[J,ZT]
theorem oM{l:List hO}(hl:l.length<=1048576) (m:Int):Uj l m=M (XH m l):=by
 unfold Uj;rw[J,Cad]
 grind[XH]
theorem JO{β:Type}{k:Int}{x:β}{q:Int}:∀{l:List (Int×β)},TG (NQ k x l) q=if q=k then M x else TG l q
 |[]=>rfl
 |(a,b)::l=>by
  unfold NQ;split
  .grind[TG]
  .rename_i h;simp only[TG,JO (l:=l)]
   grind
theorem L9{l:List hO}:Jy m (l++[p])=if p.j=m then aa .i64 (Jy m l+mU p)else Jy m l:=by
 grind[Jy]
theorem ffc{l:List α}{q:α->Bool}{v:ρ}:ff (λi=>if(l[i]?.any q)=a38 then M v else s5) l.length=if l.any q=a38 then M v else s5:=by
 have h:=Wv (l:=l) (q:=q) (g:=λ_=>v)
 cases hf:ff (λi=>if(l[i]?.any q)=a38 then M v else s5) l.length with
 |none=>
  grind
 |some w=>
  rw[hf]at h;rw[J (show l.any q=a38 from h.symm)]
  grind[Qa]
theorem cG{l:List α}(hl:l.length<=1048576) (q:α->Bool) (v:ρ) {step:Int->Option (Ex Int Unit ρ)}
 (hs:∀i (h:i<a00 l),step (i:Int)=M (if q l[i]=a38 then .ret v else .go (aa .i64 ((i:Int)+1)))) (he:step (a00 l:Int)=M (.brk ())) :
 ca step 0=M (if l.any q=a38 then .inr v else .inl ()):=by
 have:ca step 0=M (Rb () (ff (λi=>if(l[i]?.any q)=a38 then M v else s5) l.length)):=
  Gb (λi=>(i:Int)) _ l.length () (λi hi _=>by
   grind[mE,pa]) (λ_=>he)
 rw[this,ffc];by_cases h:l.any q=a38
 .rw[J h,J h];rfl
 .rw[p6 h,p6 h];rfl
def OS(c:ma) (t:na) (m:Int):Bool:=s6 (m<c.aj\/t.aq<m\/1000000000000000<Jy m t.al\/1000000000000000<XH m t.al)
theorem al5{l:List hO}(hl:l.length<=1048576):ku l=M (Yd (l.map (·.j))):=by
 unfold ku;have:ca (oo l) (([]:List Int),0)=M (.inl (l.map (·.j))):=by
  refine Nc (λi=>((l.take i).map (·.j),(i:Int))) l.length _ (λi hi=>?_) ?_ rfl
  .have h2:(l.take i).length<=a00 l:=o4
   unfold oo;dsimp only;rw[J,va hi,a!,Od o4,a!,pa U,Fb hi]
   grind
  grind[oo]
 grind[pX]
theorem JW{c:ma}{t:na}(hl:t.al.length<=1048576) {L:List Int}(a:L.length<=1048576):ca (vj c t L) 0=M (if L.any (OS c t)=a38 then .inr 3 else .inl ()):=by
 refine cG a _ _ (λi hi=>?_) ?_
 .unfold vj;rw[J,va hi];simp only[a!,SI hl,oM hl]
  grind[OS]
 grind[vj]
theorem wY{c:ma}{t:na}:(Yd (t.al.map (·.j))).any (OS c t)=t.al.any λp=>OS c t p.j:=by
 rw[Bool.eq_iff_iff,Yac,Yac];constructor
 .rintro⟨m,hm,hb⟩;obtain⟨p,a,rfl⟩:=V!.1 (((Of _).2.2 _).1 hm)
  grind
 .rintro⟨p,a,hb⟩;exact⟨p.j,((Of _).2.2 _).2 (V!.2 ⟨p,a,rfl⟩),hb⟩
def LR(t:na):Bool:=(t.ag.aa.any λf=>s6 (t.z<f.ah)) || ((t.al.any λp=>s6 (t.z<p.z)) || t.an.any λa=>s6 (t.z<a.a0))
theorem ao1{t:na}(a:t.ag.aa.length<=1048576) (h2:t.al.length<=1048576) (b:t.an.length<=1048576):Hr t=M (!LR t):=by
 unfold Hr LR;rw[cG a (λf=>s6 (t.z<f.ah)) a39 (λi hi=>by
  unfold cr;rw[J,va hi,a!]
  grind) (by grind[cr])]
 rw[cG h2 (λf=>s6 (t.z<f.z)) a39 (λi hi=>by
  unfold br;rw[J,va hi,a!]
  grind) (by grind[br])]
 rw[cG b (λf=>s6 (t.z<f.a0)) a39 (λi hi=>by
  unfold Zq;rw[J,va hi,a!]
  grind) (by grind[Zq])]
 grind
def Ww(p:hO):Prop:=(0<=p.z/\p.z<=109572)/\(0<=p.j/\p.j<=3599)/\(1<=p.ae/\p.ae<=1000000000000000)/\1<=p.a/\p.a<=4
instance (p:hO):Decidable (Ww p):=by unfold Ww;infer_instance
def kL(l:List hO):Prop:=a00 l<=4096/\∀i (h:i<a00 l),Ww l[i]/\(∀_:0<i,l[i-1].z<=l[i].z)/\0<=Jy l[i].j (l.take (i+1))
def JQ(l:List hO):List (Int×Int):=l.foldl (λm p=>NQ p.j (aa .i64 ((TG m p.j).getD 0+mU p)) m) []
theorem RR{l:List hO}:JQ (l++[p])=NQ p.j (aa .i64 ((TG (JQ l) p.j).getD 0+mU p)) (JQ l):=by simp[JQ]
theorem am2(l:List hO) (q:Int):(TG (JQ l) q).getD 0=Jy q l:=by
 have key:∀i,i<=a00 l->∀q,(TG (JQ (l.take i)) q).getD 0=Jy q (l.take i):=by
  intro i
  induction i with
  |zero=>intro _ q;rfl
  |succ i ih=>
   intro hi q;rw[Fb hi,RR,JO,L9]
   grind
 have:=key l.length (x? _) q
 simp_all
def BQ(l:List hO) (i:Nat):Option (Int×Int):=
 match l[i]? with
 |none=>s5
 |some p=>if p.z<0\/109572<p.z\/p.j<0\/3599<p.j\/p.ae<1\/1000000000000000<p.ae then M ((i:Int),3)else if p.a<1\/4<p.a then M ((i:Int),1)
  else if 0<i/\((l[i-1]?).any λq=>s6 (p.z<q.z))=a38 then M ((i:Int),9)else if Jy p.j (l.take (i+1))<0 then M ((i:Int),13)else s5
theorem TI(l:List hO):jq l=M (if 4096<(a00 l:Int)then(4096,4)else(ff (BQ l) l.length).getD (0,0)):=by
 unfold jq;by_cases hl:4096<(a00 l:Int)
 .grind
 rw[p6 hl,p6 hl];have:ca (Ek l) (([]:List (Int×Int)),0)=M (Rb () (ff (BQ l) l.length)):=by
  refine Gb (λi=>(JQ (l.take i),(i:Int))) _ l.length () (λj hj _=>?_) (λ_=>?_)
  .unfold Ek;dsimp only;rw[J,va hj,a!];have a:(b? (α:=Bool) (b? (α:=Bool) (if¬l[j].z<0 then M (s6 (109572<l[j].z))else M a38) λf=>if f=a38 then M a38 else b? (α:=Bool) (if¬l[j].j<0 then M (s6 (3599<l[j].j))else M a38) λc=>if c=a38 then M a38 else if¬l[j].ae<1 then M (s6 (1000000000000000<l[j].ae))else M a38) λb=>M b)=M (s6 (l[j].z<0\/109572<l[j].z\/l[j].j<0\/3599<l[j].j\/l[j].ae<1\/1000000000000000<l[j].ae)):=by
    grind
   have bi:∀o:Option Bool,(b? o λb=>M b)=o:=λo=>o0
   rw[bi]at a;rw[a];unfold BQ;rw[n! hj];dsimp only;simp only[a!];by_cases g:l[j].z<0\/109572<l[j].z\/l[j].j<0\/3599<l[j].j\/l[j].ae<1\/1000000000000000<l[j].ae
   .rw[s7 g,J (rfl:a38=a38),J g,O3]
   rw[w2 g,p6 o0,p6 g];rw[orQ];by_cases g2:l[j].a<1\/4<l[j].a
   .rw[s7 g2,J (rfl:a38=a38),J g2,O3]
   rw[w2 g2,p6 o0,p6 g2];have ho:(if(0:Int)<(j:Int)then(c! l (aa .i64 ((j:Int)-1))).bind λd=>M (s6 (l[j].z<d.z))else M a39)=M (s6 (0<j/\((l[j-1]?).any λq=>s6 (l[j].z<q.z))=a38)):=by
    by_cases e:0<j
    .rw[J,f? U U,show((j:Int)-1)=((j-1:Nat):Int) by omega,va U,n! U]
     grind
    simp_all
   rw[ho,a!];by_cases g3:0<j/\((l[j-1]?).any λq=>s6 (l[j].z<q.z))=a38
   .rw[s7 g3,J (rfl:a38=a38),J g3,O3]
   rw[w2 g3,p6 o0,p6 g3];have hm:NQ l[j].j (aa .i64 ((TG (JQ (l.take j)) l[j].j).getD 0+mU l[j])) (JQ (l.take j))=JQ (l.take (j+1)):=by rw[Fb hj,RR]
   rw[pM,a!,hm,am2,pa U];by_cases e:Jy l[j].j (l.take (j+1))<0
   all_goals simp_all[O3,if_neg,ci9]
  grind[Ek]
 rw[this,a!];cases ff (BQ l) l.length<;>rfl
theorem yR{l:List hO}(h:i<a00 l):BQ l i=s5↔Ww l[i]/\(∀_:0<i,l[i-1].z<=l[i].z)/\0<=Jy l[i].j (l.take (i+1)):=by
 unfold BQ Ww;rw[n! h,n! (show i-1<a00 l by omega)]
 grind
theorem aN7{l:List hO}{v:Int×Int}(h:BQ l i=M v):v.2≠0:=by
 grind[BQ]
theorem vK{l:List hO}:(if 4096<(a00 l:Int)then((4096,4):Int×Int)else(ff (BQ l) l.length).getD (0,0)).2=0↔kL l:=by
 unfold kL;by_cases hl:4096<(a00 l:Int)
 .grind
 rw[p6 hl]
 cases h:ff (BQ l) l.length with
 |none=>
  simp only[Option.getD_none,true_iff]
  grind[yR,db]
 |some v=>
  grind[Qa,aN7,yR]
def sgZ(p:hO):Int:=if p.a=1 then p.ae else if p.a=2\/p.a=3 then -p.ae else 0
def waZ(p:hO):Int:=if p.a=4 then p.ae else 0
def Ut(f:hO->Int) (m:Int):List hO->Int
 |[]=>0
 |p::l=>(if p.j=m then f p else 0)+Ut f m l
theorem NP{f:hO->Int}{m:Int}:∀{a b:List hO},Ut f m (a++b)=Ut f m a+Ut f m b
 |[],b=>by simp[Ut]
 |p::a,b=>by simp only[List.cons_append,Ut,NP (a:=a)];omega
theorem AS{f:hO->Int}{m:Int}:∀{l:List hO},(∀p∈l,p.j≠m)->Ut f m l=0
 |[],_=>rfl
 |p::l,h=>by
  rw[Ut,p6 (h p o0),AS λq hq=>h q o4];rfl
theorem aa5(h:Ww p):-1000000000000000<=sgZ p/\sgZ p<=1000000000000000:=by
 obtain⟨-,-,h,-⟩:=h
 grind[sgZ]
theorem DS(h:Ww p):0<=waZ p/\waZ p<=1000000000000000:=by
 obtain⟨-,-,h,-⟩:=h
 grind[waZ]
theorem OP{f:hO->Int}{m:Int}:∀{l:List hO},(∀p∈l,-1000000000000000<=f p/\f p<=1000000000000000)->-1000000000000000*(a00 l:Int)<=Ut f m l/\Ut f m l<=1000000000000000*(a00 l:Int)
 |[],_=>by simp[Ut]
 |p::l,h=>by
  have ih:=OP (m:=m) λq hq=>h q (Dac _ hq)
  grind[Ut]
theorem bx1(h:Ww p):mU p=sgZ p:=by
 obtain⟨-,-,h,-⟩:=h
 grind[mU,sgZ,f?]
theorem QV(c:hO->Prop) [DecidablePred c] (v f:hO->Int) (m:Int):∀(l:List hO),(a00 l<=8200)->(∀p∈l,-1000000000000000<=f p/\f p<=1000000000000000)->(∀p∈l,(if c p then v p else 0)=if p.j=m then f p else 0)->
 l.foldl (λs p=>if c p then aa .i64 (s+v p)else s) 0=Ut f m l:=by
 intro l hl hb hc;have key:∀i,i<=a00 l->(l.take i).foldl (λs p=>if c p then aa .i64 (s+v p)else s) 0=Ut f m (l.take i):=by
  intro i
  induction i with
  |zero=>intro _;rfl
  |succ i g=>
   intro hi;have a:l[i]∈l:=y! hi;have e:=OP (m:=m) (l:=l.take i) λq hq=>hb q (Rab hq);have d:(l.take i).length=i:=o4
   rw[d]at e;have hbi:=hb _ a;have b:=hc _ a;rw[Fb hi,Gac,g U,NP];simp only[Γ,rad,Ut];rw[←b];by_cases h:c l[i]
   .rw[J h]at b;rw[J h,J h,f? U U];omega
   simp_all
 have:=key l.length (x? _)
 simp_all
theorem aP{l:List hO}(hl:l.length<=8200) (a:∀p∈l,Ww p) (m:Int):Jy m l=Ut sgZ m l:=
 QV (λp=>p.j=m) mU sgZ m l hl (λp h=>aa5 (a p h)) λp h=>by grind[bx1]
theorem OX{l:List hO}(hl:l.length<=8200) (a:∀p∈l,Ww p) (m:Int):XH m l=Ut waZ m l:=
 QV (λp=>p.j=m/\p.a=4) (·.ae) waZ m l hl (λp h=>by have:=DS (a p h);omega) λp h=>by
  grind[waZ]
theorem kL.post{l:List hO}(h:kL l):∀p∈l,Ww p:=by
 intro p a;obtain⟨i,hi,rfl⟩:=H' a;exact(h.2 i hi).1
theorem bE{m:Int}:∀{l:List hO},(∀p∈l,Ww p)->0<=Ut waZ m l
 |[],_=>iae _
 |p::l,h=>by
  have ih:=bE (m:=m) λq hq=>h q (Dac _ hq);have:=DS (h p o0)
  grind[Ut]
def gI(a:oe):Prop:=0<=a.Id/\(0<=a.n/\a.n<a.To/\a.To<=3600/\a.To-a.n<=120)/\(0<=a.a0/\a.a0<=a.a7/\a.a7<=109572)/\(1<=a.ax/\a.ax<=6)/\(0<=a.ae/\a.ae<=1000000000000000)/\(a.ae=0\/a.ax=3)
instance (a:oe):Decidable (gI a):=by unfold gI;infer_instance
theorem cR(a b:Int):wh a b=M (s6 (0<=a/\a<b/\b<=3600/\b-a<=120)):=by
 grind[wh,f?]
theorem AN(a:oe):Mv a=M (s6 (gI a)):=by
 unfold Mv gI;rw[cR];by_cases j:a.Id<0
 .grind
 have b:0<=a.Id:=U
 by_cases h2:0<=a.n/\a.n<a.To/\a.To<=3600/\a.To-a.n<=120
 case neg=>grind
 by_cases k:a.a0<0
 .grind
 have e:0<=a.a0:=U
 by_cases l:a.a7<a.a0
 .grind
 have f:a.a0<=a.a7:=U
 by_cases m:109572<a.a7
 .grind
 have g:a.a7<=109572:=U
 by_cases n:a.ax<1
 .grind
 have h:1<=a.ax:=U
 by_cases o:6<a.ax
 .grind
 have i:a.ax<=6:=U
 by_cases p:0<=a.ae<;>by_cases q:a.ae<=1000000000000000<;>by_cases c:a.ae=0<;>by_cases d:a.ax=3<;>simp[j,h2,k,l,m,n,o,b,e,f,g,h,i,p,q,c,d]
def uE(c:ma) (m:Int):Prop:=c.aj<=m/\m<=min 3599 (aa .i64 (aa .i64 (c.aj+120)-1))
instance (c:ma) (m:Int):Decidable (uE c m):=by unfold uE;infer_instance
theorem kS(c:ma) (m:Int):Ol c m=M (s6 (uE c m)):=by
 unfold Ol uE
 grind
theorem wO(d:Int):Qn d=M (s6 (0<=d/\d<=109572)):=by
 grind[Qn]
structure X' (l:cb) (c:ma) (t:na):Prop where
 cf:Ja l t.ag.ai c=M 0
 hv:(hhV l t.ag).2=0
 date:0<=t.z/\t.z<=109572
 last:t.aq = -1\/uE c t.aq
 led:kL t.al
 mon:∀p∈t.al,OS c t p.j=a39
 few:t.an.length<=16
 app:∀i (h:i<a00 t.an),gI t.an[i]/\t.an[i].Id=(i:Int)
 late:LR t=a39
theorem JS{t:na}(h3:t.an.length<=1048576):ca (uj t) 0=M (Rb () (ff (λi=>match t.an[i]? with|some a=>if gI a/\a.Id=(i:Int)then s5 else M (13:Int)|none=>s5) t.an.length)):=by
 refine Gb (λi=>(i:Int)) _ t.an.length () (λi hi _=>?_) (λ_=>?_)
 .unfold uj;rw[J,va hi,a!,AN,n! hi,a!]
  grind[mE,pa]
 grind[uj]
theorem nH{l:cb}(hl:m? l) {c:ma}(hc:c.au.as.length<=1048576) {t:na}(w:t.ag.aa.length<=1048576) (h2:t.al.length<=1048576) (s:t.an.length<=1048576) :
 ∃n,Wj l c t=M n/\(n=0↔X' l c t):=by
 obtain⟨n,x⟩:=oV hl hc t.ag.ai;unfold Wj;rw[x,wi l t.ag hl.ns];simp only[a!];by_cases j:n=0
 case neg=>
  rw[J j];refine⟨1,rfl,o0,λh=>absurd ?_ j⟩;have:=h.cf
  simp_all
 rw[p6 (v!.2 j)];by_cases hv:(hhV l t.ag).2=0
 case neg=>rw[J hv];exact⟨_,rfl,λh=>absurd h hv,λh=>absurd h.hv hv⟩
 rw[p6 (v!.2 hv),wO,kS,a!];have hd:(b? (α:=Bool) (if s6 (0<=t.z/\t.z<=109572)=a38 then if¬t.aq = -1 then(M (s6 (uE c t.aq))).bind λy=>M (!y)else M a39 else M a38) λb=>M b)=M (s6 (¬((0<=t.z/\t.z<=109572)/\(t.aq = -1\/uE c t.aq)))):=by
  by_cases a1:0<=t.z/\t.z<=109572<;>by_cases a2:t.aq = -1<;>by_cases a3:uE c t.aq<;>simp[a1,a2,a3]
 rw[show∀o:Option Bool,(b? o λb=>M b)=o from λo=>o0]at hd;rw[hd,a!];by_cases a:(0<=t.z/\t.z<=109572)/\(t.aq = -1\/uE c t.aq)
 case neg=>
  rw[s7 a,J (rfl:a38=a38)];exact⟨3,rfl,o0,λh=>absurd ⟨h.date,h.last⟩ a⟩
 rw[w2 (v!.2 a),p6 o0,TI,a!];by_cases d:kL t.al
 case neg=>
  rw[J (λe=>d (vK.1 e))];exact⟨_,rfl,λe=>absurd (vK.1 e) d,λh=>absurd h.led d⟩
 rw[p6 (v!.2 (vK.2 d))];have k:=gx (t.al.map (·.j));rw[Mab]at k;rw[al5 h2,a!,JW h2 U,wY,a!];by_cases hm:(t.al.any λp=>OS c t p.j)=a38
 .rw[J hm];refine⟨3,rfl,o0,λh=>?_⟩;obtain⟨p,q,r⟩:=Yac.1 hm;rw[h.mon p q]at r;grind
 rw[p6 hm];dsimp only;have m:∀p∈t.al,OS c t p.j=a39:=λp d=>by
  simp_all
 by_cases ha:16<(a00 t.an:Int)
 .rw[J ha];exact⟨4,rfl,o0,λh=>by have:=h.few;omega⟩
 rw[p6 ha,JS s,a!]
 cases hf:ff (λi=>match t.an[i]? with|some a=>if gI a/\a.Id=(i:Int)then s5 else M (13:Int)|none=>s5) t.an.length with
 |some v=>
  obtain⟨i,u,g,-⟩:=Qa.1 hf;rw[n! u]at g;dsimp only at g;split at g
  .grind
  .rename_i hx;obtain rfl:=J' g;exact⟨13,rfl,o0,λh=>absurd (h.app i u) hx⟩
 |none=>
  simp only[BK];have f:∀i (h:i<a00 t.an),gI t.an[i]/\t.an[i].Id=(i:Int):=λi hi=>by
   grind[db]
  rw[ao1 w h2 s,a!]
  cases hb:LR t with
  |true=>exact⟨9,rfl,o0,λh=>by have:=h.late;simp_all⟩
  |false=>exact⟨0,rfl,λ_=>⟨l5,hv,a.1,a.2,d,m,U,f,hb⟩,λ_=>rfl⟩
structure W? (b:ot):Prop where
 due:0<=b.a8/\b.a8<=1000000000000000
 rcv:0<=b.a1/\b.a1<=1000000000000000
 wai:0<=b.a3/\b.a3<=1000000000000000
 mon:0<=b.j/\b.j<=3599
variable {b:ot}
def qQ(b:ot):Int:=max (b.a8-b.a1) 0
def GH(b:ot):Int:=max (b.a1-b.a8-b.a3) 0
theorem cr5(h:W? b):Yp b=M (qQ b):=by
 obtain⟨h1,h2,h3,h4⟩:=h
 grind[Yp,qQ,f?]
theorem aV0(h:W? b):Pe b=M (GH b):=by
 obtain⟨h1,h2,h3,h4⟩:=h
 grind[Pe,GH,f?]
theorem aZ7(h:W? b):0<=qQ b/\qQ b<=1000000000000000:=by
 obtain⟨h1,h2,h3,h4⟩:=h
 grind[qQ]
theorem bz2(h:W? b):0<=GH b/\GH b<=1000000000000000:=by
 obtain⟨h1,h2,h3,h4⟩:=h
 grind[GH]
def uF(to d:Int) (l:List ot):List hO:=l.filterMap λb=>if b.j<=to/\0<qQ b then M ⟨d,b.j,1,qQ b⟩else s5
def SH(l:List hO):Int:=(l.map (·.ae)).sum
theorem ad6{a b:List hO}:SH (a++b)=SH a+SH b:=by simp[SH]
def sI(kind d:Int) (om:Int->Bool):Int->List ot->List hO×Int
 |rem,[]=>([],rem)
 |rem,b::bs=>if 0<rem then(if GH b<=0\/om b.j=a38 then sI kind d om rem bs else(⟨d,b.j,kind,min (GH b) rem⟩::(sI kind d om (rem-min (GH b) rem) bs).1,(sI kind d om (rem-min (GH b) rem) bs).2))else([],rem)
def GW{to d:Int}{l:List ot}:(uF to d l).length<=a00 l:=List.length_filterMap_le _ _
theorem VO{to d:Int}:∀{l:List ot},(∀b∈l,W? b)->0<=SH (uF to d l)/\SH (uF to d l)<=1000000000000000*(a00 l:Int)
 |[],_=>by simp[uF,SH]
 |b::l,h=>by
  have ih:=VO (to:=to) (d:=d) (l:=l) λx hx=>h x o4;have hb:=aZ7 (h b o0)
  grind[uF,SH]
theorem aU6{l:List α}:KG (x::l) 1=M l:=by
 have:=U5 (l:=x::l) (i:=1) o0
 simp_all
theorem ci4{l:List α}:c! (x::l) 0=M x:=by
 have:=va (l:=x::l) (i:=0) o0
 simp_all
theorem EK{d:Int}{c:List (Int×Bool)}:∀{l:List ot}{rem:Int}{acc:List hO},(∀b∈l,W? b)->acc.length+a00 l<=1048576->0<=rem/\rem<9223372036854775807->
 ca (Mh d c) (rem,acc,l)=M (.inl ((sI 2 d (λm=>(TG c m).getD a39) rem l).2,acc++(sI 2 d (λm=>(TG c m).getD a39) rem l).1))
 |[],rem,acc,_,_,_=>by
  grind[sI,Mh,Qb]
 |b::l,rem,acc,hb,hl,hr=>by
  have a:=hb b o0;have ho:=bz2 a;simp only[G!]at hl;by_cases e:0<rem
  case neg=>
   grind[sI,Mh,Qb]
  rw[sI,J e];by_cases hc:GH b<=0\/(TG c b.j).getD a39=a38
  .rw[J hc];rw[Ke (s':=(rem,acc,l)) ?_,EK (λx hx=>hb x o4) U hr];unfold Mh;simp only[G!,ci4,a!,aV0 a,aU6]
   grind
  .rw[p6 hc];have hc':=not_or.1 hc;rw[Ke (s':=(rem-min (GH b) rem,acc++[⟨d,b.j,2,min (GH b) rem⟩],l)) ?_,EK (λx hx=>hb x o4) o4 U]
   .simp
   .unfold Mh;simp only[G!,ci4,a!,aV0 a,aU6];rw[J,a!,s7 e,J (rfl:a38=a38),Od o4,f? U U]
    simp_all
theorem RN{kind d:Int}{om:Int->Bool}:∀{l:List ot}{rem:Int},(sI kind d om rem l).1.length<=a00 l
 |[],rem=>by simp[sI]
 |b::l,rem=>by
  rw[sI];by_cases a:0<rem
  case neg=>grind
  rw[J a];by_cases hc:GH b<=0\/om b.j=a38
  .rw[J hc];have:=RN (kind:=kind) (d:=d) (om:=om) (l:=l) (rem:=rem)
   grind
  .rw[p6 hc];have:=RN (kind:=kind) (d:=d) (om:=om) (l:=l) (rem:=rem-min (GH b) rem)
   simp_all
def upB(m:Int) (a:oe):Bool:=s6 (a.ax=3/\a.n<=m/\m<a.To)
def FQ(A:List oe) (m:Int):Option Int:=(A.reverse.find? (upB m)).map (·.ae)
theorem J8(hl:A.length<=1048576) (m:Int):Ti A m=M (match FQ A m with|some c=>(c,a38)|none=>(0,a39)):=by
 have key:∀k,k<=a00 A->ca (Xe A m) ((k:Int)-1)=M (match ((A.take k).reverse.find? (upB m)).map (·.ae)with|some c=>.inr (c,a38)|none=>.inl ()):=by
  intro k
  induction k with
  |zero=>
   intro _;refine(Qb (b:=()) ?_).trans rfl;simp[Xe]
  |succ k ih=>
   intro hk;have a:Xe A m (((k+1:Nat):Int)-1)=M (if upB m A[k]=a38 then .ret (A[k].ae,a38)else .go ((k:Int)-1)):=by
    unfold Xe;rw[J,show((k+1:Nat):Int)-1=((k:Nat):Int) by omega,va hk,a!,f? U U]
    grind[upB]
   rw[Fb hk,List.reverse_append,List.reverse_singleton,List.singleton_append,List.find?_cons]
   cases hu:upB m A[k]with
   |true=>
    rw[hu,J rfl]at a
    grind[Ct]
   |false=>
    rw[hu,p6 o0]at a
    grind[Ke]
 have:=key A.length (x? _)
 grind[Ti,FQ,f?]
def pK(A:List oe) (w:ke):ke:=match FQ A w.j with|some c=>⟨w.j,c,0⟩|none=>w
theorem N1(hl:A.length<=1048576) {l:List ke}(hn:l.length<=1048576):Sj l A=M (l.map (pK A)):=by
 unfold Sj;have:ca (Vg l A) (([]:List ke),0)=M (.inl (l.map (pK A))):=by
  refine Nc (λi=>((l.take i).map (pK A),(i:Int))) l.length _ (λi hi=>?_) ?_ rfl
  .unfold Vg;dsimp only;rw[J,va hi,a!,J8 hl,a!];have hlen:((l.take i).map (pK A)).length=i:=o4
   have a:(b? (α:=Int×Int) (if(match FQ A l[i].j with|some c=>((c,a38):Int×Bool)|none=>(0,a39)).2=a38 then M ((match FQ A l[i].j with|some c=>((c,a38):Int×Bool)|none=>(0,a39)).1,0)else M (l[i].ae,l[i].Code)) λx=>M (ke.mk l[i].j x.1 x.2))=M (pK A l[i]):=by
    unfold pK;cases FQ A l[i].j<;>simp
   rw[Fb hi,eac]
   cases h:FQ A l[i].j with
   |some c=>
    rw[h]at a;simp only[D1,a!]at a⊢;rw[Od o4,a!,pa U,D?,R?,J' a]
   |none=>
    rw[h]at a;simp only[t!,u4,a!]at a⊢;rw[Od o4,a!,pa U,D?,R?,J' a]
  grind[Vg]
 simp_all
noncomputable def ZL(l:cb) (c:ma) (t:na) (to rec:Int):List ot:=(p! (to+1-c.aj).toNat).map λ(j:Nat)=>Yt t.al (pK t.an (BE l t.ag c (c.aj+j) rec))
theorem pD:(Yt P w).j=w.j:=rfl
theorem vH:(pK A w).j=w.j:=by
 grind[pK]
theorem YU{l:cb}{c:ma}{t:na}{to:Int}:(ZL l c t to rec).map (·.j)=(p! (to+1-c.aj).toNat).map λ(j:Nat)=>c.aj+(j:Int):=by
 simp_all[ZL,pD,vH,WJ]
theorem QL(a:Int) (n:Nat):((p! n).map λ(j:Nat)=>a+(j:Int)).Nodup:=by
 grind[List.pairwise_lt_range]
theorem iN{l:cb}(hl:m? l) (a:E' l) {t:na}(d:t.ag.aa.length<=64) {c:ma}(hc:c.au.as.length<=1048576) (e:t.al.length<=1048576) (ha:t.an.length<=1048576) {to:Int}(hf:0<=c.aj) (ht:to<c.aj+120) (rec:Int) :
 Za l c t to rec=M (if to<c.aj\/3599<to then []else ZL l c t to rec):=by
 unfold Za;rw[orQ];by_cases h:to<c.aj\/3599<to
 .simp_all
 rw[w2 h,p6 o0,p6 h,f? U U,KU hl a d hc U rec,a!];have hn:(to+1-c.aj).toNat<=120:=U
 rw[p6 o4,N1 ha o4,a!];unfold Ir;have b:(((p! (to+1-c.aj).toNat).map λ(j:Nat)=>BE l t.ag c (c.aj+j) rec).map (pK t.an)).map (λw=>w.j)=(p! (to+1-c.aj).toNat).map λ(j:Nat)=>c.aj+(j:Int):=by
  simp_all[vH,WJ]
 rw[J ⟨o4,e,by rw[b];simp[QL]⟩,a!];simp only[maf];rfl
theorem JF{f:hO->Int}{m:Int}:∀{l:List hO},Ut f m (l.filter λp=>p.j==m)=Ut f m l
 |[]=>rfl
 |p::l=>by
  rw[Jad];by_cases h:p.j=m
  .simp only[h,beq_self_eq_true,D1,Ut,JF (l:=l)]
  .simp only[aaA,h,u4,Ut,JF (l:=l)];omega
theorem w6(m:Int) (l:List hO):υ m l=XH m l:=by
 grind[υ,XH,Cad]
theorem aR4(h:kL P) (w:ke):(Yt P w).a1=Ut sgZ w.j P/\(Yt P w).a3=Ut waZ w.j P:=by
 have hf:∀p∈P.filter (λp=>p.j==w.j),Ww p:=λp a=>h.post p (List.mem_filter.1 a).1;have hl:(P.filter λp=>p.j==w.j).length<=8200:=N? (List.length_filter_le _ _) (by have:=h.1;omega)
 grind[Yt,ZT,aP,JF,w6,OX]
theorem JZ(h:kL P) (m:Int):0<=Ut sgZ m P:=by
 have key:∀k,k<=a00 P->0<=Ut sgZ m (P.take k):=by
  intro k
  induction k with
  |zero=>intro _;exact iae _
  |succ k ih=>
   intro hk;by_cases hm:P[k].j=m
   .have:=(h.2 k hk).2.2;rw[hm,aP (by rw[Aac];have:=h.1;omega) (λp a=>h.post p (Rab a))]at this;omega
   .rw[Fb hk,NP]
    grind[Ut]
 have:=key P.length (x? _)
 simp_all
theorem aR5{c:ma}{t:na}(h:OS c t m=a39):c.aj<=m/\m<=t.aq/\Jy m t.al<=1000000000000000/\XH m t.al<=1000000000000000:=by
 simp_all[OS]
theorem aE2{l:cb}{c:ma}{t:na}(h:X' l c t) (m:Int):Ut sgZ m t.al<=1000000000000000/\Ut waZ m t.al<=1000000000000000:=by
 by_cases he:∃p∈t.al,p.j=m
 .obtain⟨p,b,rfl⟩:=he;obtain⟨-,-,a,h2⟩:=aR5 (h.mon p b);have hl:t.al.length<=8200:=by have:=h.led.1;omega
  rw[aP hl h.led.post]at a;rw[OX hl h.led.post]at h2;omega
 grind[AS]
theorem aL5{x:Int}(h:FQ A m=M x):∃a∈A,a.ae=x:=by
 unfold FQ at h;obtain⟨a,ha,rfl⟩:=Option.map_eq_some_iff.1 h
 grind
theorem T6{l:cb}(hl:m? l) (b:E' l) {h:ml}(n:h.aa.length<=64) {c:ma}(hc:c.au.as.length<=1048576) :0<=(BE l h c m rec).ae/\(BE l h c m rec).ae<=1000000000000000:=by
 by_cases a:(BE l h c m rec).Code=0
 case neg=>
  have:(BE l h c m rec).ae=0:=by
   unfold BE at a⊢;split
   .rfl
   .rename_i j;rw[p6 j]at a;split
    all_goals simp_all[aR9]
  omega
 obtain⟨f,g,k3⟩:=av0 a;obtain⟨v,q,t⟩:=rN hl (λx hx=>N? (b.s x hx) p5) (h:=h) U (c:=c) hc;rw[q,κ]at g;obtain⟨i,H⟩:=t g;have hi:h.ai.toNat=i:=by have:=H.sc;omega
 rw[hi]at k3;rw[k3]at a⊢;dsimp only at a⊢;obtain⟨c1,-⟩:=DK (l:=l) (h:=h) (rec:=rec) f b n;obtain⟨d2,d3,d4,d5⟩:=L4 f;obtain⟨a1,a2⟩:=bs7 a;rw[a2];generalize HW l h m rec=P at *;have hds:=(Jr c1).1;have e:∀p∈P,-1000000000000000<=(nc l i h c.u rec p.n).1.N/\(nc l i h c.u rec p.n).1.N<=1000000000000000:=λp o=>eJ H rec p.n (a1 p o);obtain⟨u,w⟩:=MJ (v:=λd=>(nc l i h c.u rec d).1.N) c1 e;have k:1<=Lr P/\Lr P<=31:=U
 have:=tV (mode:=c.aw) k H.cf.r U u w;omega
theorem X'.appeals{l:cb}{c:ma}{t:na}(h:X' l c t):∀a∈t.an,gI a:=by
 intro a ha;obtain⟨i,hi,rfl⟩:=H' ha;exact(h.app i hi).1
theorem cr4{l:cb}(hl:m? l) (hfr:E' l) {t:na}(hh:t.ag.aa.length<=64) {c:ma}(hc:c.au.as.length<=1048576) (ht:X' l c t) {to:Int}(hf:0<=c.aj) (hto:to<=3599):∀b∈ZL l c t to rec,W? b/\b.a1=Ut sgZ b.j t.al/\b.a3=Ut waZ b.j t.al/\c.aj<=b.j/\b.j<=to:=by
 intro b hb;obtain⟨j,hj,rfl⟩:=V!.1 hb;obtain⟨w,hw⟩:∃w,w=pK t.an (BE l t.ag c (c.aj+j) rec):=⟨_,rfl⟩;rw[←hw];have hm:w.j=c.aj+j:=by grind[vH,WJ]
 have hjl:=List.mem_range.1 hj;obtain⟨e,f⟩:=aR4 ht.led w;have h1:=JZ ht.led w.j;have h2:=aE2 ht w.j;have h3:=bE (m:=w.j) ht.led.post;refine⟨⟨?_,U,U,by grind[pD]⟩,e,f,by grind[pD],by grind[pD]⟩;have hd:(Yt t.al w).a8=if w.Code=0 then w.ae else(Yt t.al w).a1:=rfl;rw[hd];split
 .rw[hw];unfold pK
  cases d:FQ t.an (BE l t.ag c (c.aj+j) rec).j with
  |none=>simp_all[T6]
  |some x=>
   obtain⟨a,ha,rfl⟩:=aL5 d;exact(ht.appeals a ha).2.2.2.2.1
 omega
theorem bB5{c:ma}(hc:0<=c.a6/\c.a6<=1000000000000000) {s:Int}(hs:0<=s/\s<=200000000000000000):∃x,Gk s c=M x/\0<=x/\x<=200000000000000000:=by
 unfold Gk Uu;by_cases h:s<1
 .simp_all
 rw[p6 h,qF];simp only[a!];split
 .simp
 .rw[f? U U]
  grind
theorem ad8(hl:A.length<=1048576):∃r,wc A=M r/\r.length<=3600:=by
 unfold wc;have hm:kD 8 (0:Int) 3601 3601=M (k? 3601 0):=RA (n:=3601) U U;rw[hm,a!];rcases NR (s:=Fg A) (λx=>x.1.length=3601/\∃j:Nat,x.2=(j:Int)/\j<=a00 A) (λx=>(a00 A-x.2).toNat) (λb=>b.length=3601) (λ_=>False) (by
  rintro⟨L,i⟩ ⟨a,j,h2,e⟩;dsimp only at a h2;subst h2;unfold Fg;dsimp only;by_cases hj:j<a00 A
  .rw[J,va hj,a!];obtain⟨b,hb⟩:∃b,(if¬A[j].ax=1 then M (A[j].ax !=2)else M a39)=M b:=by split<;>exact⟨_,rfl⟩
   rw[hb,a!,pa U]
   cases b with
   |true=>exact .inl ⟨_,rfl,⟨a,j+1,rfl,hj⟩,U⟩
   |false=>
    rw[p6 o0];by_cases hf:max A[j].n 0<min A[j].To 3600
    .rw[J hf];have e1:c! L (max A[j].n 0)=M (L[(max A[j].n 0).toNat]' U):=nh U U;rw[e1,a!];have e2:∀x,put L (max A[j].n 0) x=M (L.set (max A[j].n 0).toNat x):=λx=>by grind[put]
     rw[e2,a!];have e3:∀j6:List Int,a00 j6=3601->∃y,c! j6 (min A[j].To 3600)=M y:=λj6 f=>⟨_,nh U U⟩;obtain⟨y,g⟩:=e3 (L.set (max A[j].n 0).toNat (aa .i64 (L[(max A[j].n 0).toNat]' U+1))) l5;rw[g,a!];have e4:∀(j6:List Int) x,a00 j6=3601->put j6 (min A[j].To 3600) x=M (j6.set (min A[j].To 3600).toNat x):=λj6 x f=>by grind[put]
     rw[e4 _ _ l5,a!,a!];exact .inl ⟨_,rfl,⟨l5,j+1,rfl,hj⟩,U⟩
    .rw[p6 hf,a!];exact .inl ⟨_,rfl,⟨a,j+1,rfl,hj⟩,U⟩
  grind) (x:=(k? 3601 0,0)) ⟨List.length_replicate,0,rfl,Nat.zero_le _⟩with⟨b,c,hb2⟩|⟨_,_,h⟩
 .rw[c,a!];dsimp only;rcases NR (s:=Eg b) (λx=>∃j:Nat,x.2.2=(j:Int)/\j<=3600/\x.1.length<=j) (λx=>(3600-x.2.2).toNat) (λb=>b.length<=3600) (λ_=>False) (by
   rintro⟨j6,p,i⟩ ⟨j,a,h2,e⟩;dsimp only at a e;subst a;unfold Eg;dsimp only;by_cases hj:j<3600
   .rw[J,va U,a!,pa U];by_cases d:0<aa .i64 (p+b[j])
    .rw[J d,Od o4,a!,a!];exact .inl ⟨_,rfl,⟨j+1,rfl,hj,l5⟩,o4⟩
    .rw[p6 d,a!];exact .inl ⟨_,rfl,⟨j+1,rfl,hj,o4⟩,o4⟩
   grind) (x:=(([]:List Int),0,0)) ⟨0,rfl,U,x? _⟩with⟨r,hr1,hr2⟩|⟨_,_,h⟩
  all_goals simp_all
 simp_all
theorem aH5(hl:S.length<=1048576):∃a,ca (uo S) (([]:List (Int×Bool)),0)=M (.inl a)/\∀m,(TG a m).getD a39=s6 (m∈S):=by
 refine⟨S.foldl (λb m=>NQ m a38 b) [],?_,λm=>?_⟩
 .refine Nc (λi=>((S.take i).foldl (λb m=>NQ m a38 b) [],(i:Int))) S.length _ (λi hi=>?_) ?_ rfl
  .unfold uo;dsimp only;rw[J,va hi,a!,pa U,Fb hi,Gac];rfl
  grind[uo]
 .have key:∀(S:List Int) (b:List (Int×Bool)),(TG (S.foldl (λb m=>NQ m a38 b) b) m).getD a39=(s6 (m∈S) || (TG b m).getD a39):=by
   intro S
   induction S with
   |nil=>simp
   |cons x S c=>
    intro b;rw[Γ,c,JO]
    grind
  grind[TG]
theorem aj7{l:List ot}(hb:∀b∈l,W? b) (hl:l.length<=120) (to d:Int):ca (Vr l to d) (([]:List hO),0,0)=M (.inl (uF to d l,SH (uF to d l))):=by
 refine Nc (λi=>(uF to d (l.take i),SH (uF to d (l.take i)),(i:Int))) l.length _ (λi hi=>?_) ?_ rfl
 .have a:=hb _ (y! hi);have c:=VO (to:=to) (d:=d) (l:=l.take i) λb e=>hb b (Rab e);have f:=GW (to:=to) (d:=d) (l:=l.take i);have ha:=aZ7 a;rw[Aac]at c f;unfold Vr;dsimp only;rw[J,va hi,a!,cr5 a,a!,orQ,pa U,Fb hi];have g:uF to d (l.take i++[l[i]])=uF to d (l.take i)++if l[i].j<=to/\0<qQ l[i]then [⟨d,l[i].j,1,qQ l[i]⟩]else []:=by
   grind[uF]
  rw[g];by_cases h:l[i].j<=to/\0<qQ l[i]
  .rw[w2 U,p6 o0,J h,Od o4,a!,a!,ad6];simp only[SH,D?,R?,jae,List.sum_nil];simp only[SH]at c;rw[f? U U,Int.add_zero]
  grind
 grind[Vr]
def TT(c:ma) (to d:Int) (S:List Int) (lim:Int) (l:List ot):List hO:=uF to d l++(sI 2 d (λm=>s6 (m∈S)) lim l).1
theorem cs3{c:ma}(hc:0<=c.a6/\c.a6<=1000000000000000) {l:List ot}(hb:∀b∈l,W? b) (hl:l.length<=120) (hS:S.length<=1048576) (to d:Int) :
 ∃lim,Gk (SH (uF to d l)) c=M lim/\0<=lim/\lim<=200000000000000000/\Gy l to c d S=M (TT c to d S lim l):=by
 have hsum:=VO (to:=to) (d:=d) hb;obtain⟨lim,f,j,k⟩:=bB5 hc (s:=SH (uF to d l)) U;refine⟨lim,f,j,k,?_⟩;unfold Gy;have a:=aj7 hb hl to d;obtain⟨i,g,h⟩:=aH5 hS;rw[a,a!];dsimp only;unfold Zx Ix;have e:(λm=>(TG i m).getD a39)=λm=>s6 (m∈S):=funext h;have hpl:=GW (to:=to) (d:=d) (l:=l);have hdl:=RN (kind:=2) (d:=d) (om:=λm=>s6 (m∈S)) (l:=l) (rem:=lim);rw[g,a!];dsimp only;rw[f,a!,EK hb o4 U,e];simp only[a!,List.nil_append];rw[Od U];rfl
theorem am9{t:na}:LR t=a39↔(∀f∈t.ag.aa,f.ah<=t.z)/\(∀p∈t.al,p.z<=t.z)/\∀a∈t.an,a.a0<=t.z:=by
 simp_all[LR]
structure cD2 (c:ma) (t:na) (to:Int) (l:List ot):Prop where
 b:∀b∈l,W? b/\b.a1=Ut sgZ b.j t.al/\b.a3=Ut waZ b.j t.al/\c.aj<=b.j/\b.j<=to
 nd:(l.map (·.j)).Nodup
 len:l.length<=120
variable {to:Int}
theorem cr3{l:cb}(hl:m? l) (a:E' l) {t:na}(d:t.ag.aa.length<=64) {c:ma}(hc:c.au.as.length<=1048576) (ht:X' l c t) (hf:0<=c.aj) (b:to<=3599) (h2:to<c.aj+120):cD2 c t to (ZL l c t to rec):=by
 refine⟨cr4 hl a d hc ht hf b,?_,?_⟩
 .simp_all[YU,QL]
 grind[ZL]
theorem as9{t:na}(h1:t.ag.aa.length<=1048576) (h2:t.al.length<=1048576) (h3:t.an.length<=1048576):Xs t=M (t.ag.aa,t.al,t.an):=by
 unfold Xs Yb sb Db Ba Oa Sa
 grind
section
variable {l:cb} {c:ma} {t:na} {e:vk}
theorem cr0{Q:List hO}(h1:P.length<=1048576) (h2:Q.length<=1048576):Ys P Q=M (if P.length+Q.length<=4096 then(P++Q,0)else(P,4)):=by
 unfold Ys;rw[f? U U,Od U,a!]
 grind
end
section
variable {l:cb} {c:ma} {t:na} {e:vk}
inductive EvR (l:cb) (c:ma) (t:na) (e:vk):List ka->List hO->List oe->Int->Prop
 |fact (hk:e.a=1) (hr:e.a2.ah=e.z):EvR l c t e (t.ag.aa++[e.a2]) t.al t.an t.aq
 |pay (hk:e.a=2) (lim:Int) (S:List Int) (hm:uE c e.j/\t.aq<=e.j) (hS:wc t.an=M S/\S.length<=3600) (hlim:Gk (SH (uF e.j e.z (ZL l c t e.j e.z))) c=M lim/\0<=lim) :
  EvR l c t e t.ag.aa (t.al++TT c e.j e.z S lim (ZL l c t e.j e.z)) t.an e.j
 |appeal (hk:e.a=3) (a:oe):EvR l c t e t.ag.aa t.al (t.an++[a]) t.aq
 |s6 (hk:e.a=4) (A:List oe) (hA:A.length=a00 t.an/\t.an≠[]):EvR l c t e t.ag.aa t.al A t.aq
 |repay (hk:e.a=5) (Q:List hO) (hQ:(∀q∈Q,q.a=3)/\Q.length<=(t.aq+1-c.aj).toNat):EvR l c t e t.ag.aa (t.al++Q) t.an t.aq
 |waive (hk:e.a=6) (q:hO) (hq:q.a=4):EvR l c t e t.ag.aa (t.al++[q]) t.an t.aq
end
theorem OH{l:List hO}(hl:l.length<=1048576):Du l l=M a38:=by
 unfold Du;rw[p6 o0];have:ca (Uo l l) 0=M (.inl ()):=by
  refine Nc (λi=>(i:Int)) l.length _ (λi hi=>?_) ?_ rfl
  .unfold Uo;rw[J,a!,s7 U,J (rfl:a38=a38),va hi,a!,a!,p6 o0,pa U]
  .simp[Uo]
 rw[this];rfl
theorem aa4(c:ma) (m:Int):∃b,ep c m=M b:=by
 unfold ep;split
 .split<;>exact⟨_,rfl⟩
 .exact⟨_,rfl⟩
theorem aB9{l:cb}{c:ma}{t:na}:∃b,Ay l c t=M b/\(b=a38->T! l/\c.au.as.length<=70/\t.ag.aa.length<=64/\t.al.length<=200/\t.an.length<=20):=by
 unfold Ay Pt nr On;obtain⟨b,hb,d⟩:=EM l;rw[hb]
 cases b with
 |false=>exact⟨a39,rfl,λh=>by cases h⟩
 |true=>
  by_cases hc:(a00 c.au.as:Int)<=70
  case neg=>exact⟨a39,by simp[hc],λh=>by cases h⟩
  by_cases a:(a00 t.ag.aa:Int)<=40
  case neg=>exact⟨a39,by simp[hc,a],λh=>by cases h⟩
  by_cases e:(a00 t.al:Int)<=200
  case neg=>exact⟨a39,by simp[hc,a,e],λh=>by cases h⟩
  by_cases ha:(a00 t.an:Int)<=20
  case neg=>exact⟨a39,by simp[hc,a,e,ha],λh=>by cases h⟩
  exact⟨a38,by simp[hc,a,e,ha],λ_=>⟨d rfl,U,U,U,U⟩⟩
def uU:ic:=⟨0,[⟨3,0,500⟩],[⟨0,0,0⟩],[],[],[]⟩
theorem aU5:Wa 0=(⟨0,31⟩,0):=Θ
theorem aA0:VJ [Xo] (-1) 0 0 9=(⟨3,0,500⟩,a38):=by
 rcases(WU (l:=[Xo]) o0 (-1) 0 0 9).2 with⟨-,e⟩|⟨f,h,e,-⟩
 .have:=e Xo o0;exact absurd this p5
 .rw[List.mem_singleton]at h;rw[e,h];rfl
theorem ZK:Rw Xg Bl (fj [Xo]) 0 9=(⟨0,[⟨3,0,500⟩],[]⟩,0):=by
 have hm:Ur (fj [Xo]) 0 9=[]:=by
  unfold Ur;rw[show(min (max (fj [Xo]).s 0) 8).toNat=0 from rfl];rfl
 grind[Rw,Xt,Bl,fj,aA0]
theorem ac5:Ql [fr.mk 7 0] uU=M (⟨3,0,500⟩,0):=by
 have hw:W! [fr.mk 7 0]:=fL Θ;have hN:∀n∈[fr.mk 7 0],cc n:=by simp[cc]
 have he:w? uU:=⟨by simp[uU],by simp[uU]⟩;have ha:Kj [fr.mk 7 0] 0=0:=p5
 rw[(F1 hN he hw).1];show M (NM [fr.mk 7 0] uU 0)=_;rw[(ak3 hw hN he 0 p5).q];unfold evQ UJ;rw[p6 p5,ha];show M ((og ⟨7,0⟩ [] uU).getD (⟨0,0,0⟩,0))=_;unfold og;rw[jK,Bp,OB,av5 o0];rfl
theorem az5:Af Bl uU (-1) 0=M (0,DU):=by
 unfold Af;rw[Su p5,a!,show YP Bl 0 uU.z=([0],[-1],[0]) by kernel_rfl];(try dsimp only);rw[show kD 1 a39 (([0]:List Int).length:Int) (([0]:List Int).length:Int)=M [a39] by rfl,a!,Ke (s':=([a38],1)) rfl,Qb (b:=[a38]) rfl,a!];(try dsimp only);rw[Gw,a!,show lU [-1] [0] [a38]=0 by kernel_rfl];rfl
theorem aa1:Da Bl ⟨0,[⟨3,0,500⟩],[],[],[],[]⟩ (-1) [a38]=M (([0],DU),⟨0,[⟨3,0,500⟩],[⟨3,0,500⟩],[],[],[]⟩):=by
 unfold Da;rw[show kD 24 (bz.mk 0 0 0) (a00 Bl.d:Int) (a00 Bl.d:Int)=M [⟨0,0,0⟩] by rfl,a!,show kD 8 (0:Int) (a00 Bl.d:Int) (a00 Bl.d:Int)=M [0] by rfl,a!,zp (Rz.s Bl (by simp[Xg])).2.1,a!,show Fx (Ll Bl)=([0],0) by kernel_rfl];rw[Ke (s':=([⟨3,0,500⟩],[0],1)) (by
  unfold Ic;(try dsimp only);rw[J p5,show c! ([0]:List Int) 0=M 0 by rfl,a!,show c! [a38] 0=M a38 by rfl,a!,p6 p5];rw[show ic.mk 0 [⟨3,0,500⟩] [⟨0,0,0⟩] [] [] []=uU from rfl,az5,a!,p6 p5,p6 p5,p6 p5,show c! Bl.f 0=M EX by rfl,a!,show EX.Value=[fr.mk 7 0]from rfl,ac5];rfl),Qb (b:=([⟨3,0,500⟩],[0])) rfl]
 rfl
theorem az8:Hc Xg 0 ⟨0,[⟨3,0,500⟩],[]⟩ 0=M (⟨3,0,500⟩,0,DU):=by
 obtain⟨j,g⟩:=OM (l:=Xg) (h:=fj [Xo]) (by rw[VP]);have e:j=0:=by have:=g.sc;grind[fj]
 subst e;have f:(Yo Xg).Code=0:=by rw[UH]
 have a:=(US Rz f g (d:=0) (r:=9) (def_:=0) (by grind[Xg,ZK]) (by simp[Xg,Bl])).1;rw[show Xg.e[0]=Bl from rfl,ZK]at a;have c:∀x∈Xg.e,a00 x.f<=64:=by simp[Xg,Bl]
 dsimp only at a;refine(lN Rz (NF f) c (i:=0) p5 (d:=0) (by simp[Xg,Bl]) a).trans ?_;rw[show N4 Xg 0 p5 0=⟨Bl,⟨ByteArray.mk #[],0,[],[],[]⟩,[a38],[]⟩ by kernel_rfl];unfold Qg;rw[Qb (b:=[]) rfl,a!];(try dsimp only);rw[Qb (b:=([],[])) rfl,a!];(try dsimp only);rw[show Da Bl ⟨0,[⟨3,0,500⟩],[],[],[],Xg.Tables⟩ (-1) [a38]=_ from aa1];rfl
theorem bb0{l:List ka}(h:l=[]\/l=[Xo]):uQ Xg (fj l) 9=[]:=by
 rcases h with rfl|rfl<;>kernel_rfl
theorem az9:BE Xg (fj [Xo]) kn 0 9=⟨0,500,0⟩:=by
 have b:nc Xg 0 (fj [Xo]) 0 9 0=(⟨3,0,500⟩,0):=by
  unfold nc;rw[show Xg.e[0]?=M Bl from rfl];(try dsimp only);rw[ZK,p6 p5];(try dsimp only);rw[show((0:Nat):Int)=0 from rfl,az8];rfl
 have a:HW Xg (fj [Xo]) 0 9=[⟨0,31⟩]:=by unfold HW;rw[bb0 (.inr rfl),aU5];rfl
 unfold BE;rw[aU5,p6 p5,ac4 VP,κ,p6 p5,a];unfold yE Mw;simp only[G!,List.length_nil,ff,List.getElem?_cons_zero,D?,R?];rw[show(fj [Xo]).ai.toNat=0 from rfl,show kn.u=0 from rfl,b];rfl
theorem X5:ZL Xg kn ⟨fj [Xo],[],[],0,-1⟩ 0 9=[Yt [] ⟨0,500,0⟩]:=by
 unfold ZL;rw[show((0:Int)+1-kn.aj).toNat=1 from rfl];simp only[List.range_one,D?,R?];rw[show kn.aj+((0:Nat):Int)=0 from rfl,az9];rfl
theorem az7:Zo (fj [Xo])=M ⟨fj [Xo],[],[],0,-1⟩:=by
 unfold Zo Ba;rw[J (by simp[fj]),a!];(try dsimp only);rw[Ke (s':=(0,1)) rfl,Qb (b:=0) rfl];rfl
theorem W5:X' Xg kn ⟨fj [Xo],[],[],0,-1⟩:=by
 refine⟨?_,by rw[VP],o0,.inl rfl,⟨o0,λi h=>o4⟩,o0,o0,λi h=>o4,am9.2 ⟨by simp[fj,Xo],o0,o0⟩⟩;unfold Ja;rw[wk Rz,UH,FX];rfl
theorem Y5:Wj Xg kn ⟨fj [Xo],[],[],0,-1⟩=M 0:=by
 obtain⟨n,n1,n2⟩:=nH Rz (c:=kn) (by simp[kn]) (t:=⟨fj [Xo],[],[],0,-1⟩) (by simp[fj]) o0 o0
 grind[W5]
theorem az6(x:ka):Uh Xg kn ⟨fj [Xo],[],[],0,-1⟩ ⟨2,9,0,0,0,0,0,0,x⟩=M (⟨fj [Xo],[⟨9,0,1,500⟩],[],9,0⟩,0):=by
 unfold Uh;rw[Y5,a!,p6 o0,wO,a!,s7 o0,p6 o0,p6 o0,as9 (by simp[fj]) o0 o0,a!];(try dsimp only);rw[p6 o0,J rfl];unfold Xw;rw[kS,a!,s7 (show uE kn 0 by decide),p6 o0,p6 o0];have e1:=iN Rz GX (t:=⟨fj [Xo],[],[],0,-1⟩) (by simp[fj]) (c:=kn) (by simp[kn]) o0 o0 (to:=0) (by simp[kn]) (by simp[kn]) 9;rw[p6 (by simp[kn]),X5]at e1;have e2:Za Xg kn (na.mk (ml.mk 0 0 0 [Xo]) [] [] 0 (-1)) 0 9=_:=e1;obtain⟨S,s1,s2⟩:=ad8 (A:=[]) o0;have a:∀b∈[Yt [] (⟨0,500,0⟩:ke)],W? b:=by
  have:=cr3 Rz GX (t:=⟨fj [Xo],[],[],0,-1⟩) (by simp[fj]) (c:=kn) (by simp[kn]) W5 (to:=0) (rec:=9) (by simp[kn]) o0 (by simp[kn]);rw[X5]at this;exact λb hb=>(this.b b hb).1
 obtain⟨lim,g1,g2,g3,g4⟩:=cs3 (c:=kn) (by simp[kn]) a o0 (S:=S) U 0 9;simp only[fj,a!,e2,s1,g4];have hQ:TT kn 0 9 S lim [Yt [] ⟨0,500,0⟩]=[⟨9,0,1,500⟩]:=by
  unfold TT;rw[show uF 0 9 [Yt [] ⟨0,500,0⟩]=[⟨9,0,1,500⟩] by kernel_rfl];unfold sI;have ho:GH (Yt [] ⟨0,500,0⟩)<=0:=p5
  grind[sI]
 grind[cr0]
theorem aA1(x:ka):∃r,Uh Xg kn ⟨fj [Xo],[],[],0,-1⟩ ⟨0,9,0,0,0,0,0,0,x⟩=M (r,1):=by
 unfold Uh;rw[Y5,a!,p6 o0,wO,a!,s7 o0,p6 o0,p6 o0,as9 (by simp[fj]) o0 o0,a!];simp
theorem rQ:Rr=M a38:=by
 unfold Rr;rw[show Qz [fr.mk 7 0]=M Xg from rfl,a!,show ml.mk 0 0 0 [ka.mk 0 (-1) 0 (bz.mk 3 0 500) (ia.mk 0 109573) 0]=fj [Xo]from rfl,az7,a!];obtain⟨r,hr⟩:=aA1 (ka.mk 0 0 0 (bz.mk 0 0 0) (ia.mk 0 0) 0);rw[show ma.mk 0 0 1 0 0 0 0 (ve.mk 0 [])=kn from rfl,az6,a!,hr,a!];(try dsimp only);rw[J rfl,J rfl,J rfl,OH o0];rfl
def c1(q:hO):Int:=if q.a=1 then q.ae else 0
def c2(q:hO):Int:=if q.a=1 then 0 else q.ae
section
variable {l:cb} {c:ma} {t:na} {to d lim:Int} {S:List Int}
end
section
variable {l:cb} {c:ma} {t:na} {d:Int}
end
section
variable {l:cb} {c:ma} {t:na} {d:Int}
end
section
variable {l:cb} {c:ma} {t:na} {d:Int}
end
section
variable {l:cb} {h:ml} {c:ma} {t:na}
theorem XZ(hl:m? l) (d:E' l) (f:h.aa.length<=64) (hc:c.au.as.length<=1048576) (hv:np l h c=M a38) (hm:0<=m/\m<=3599) (rec:Int) :
 ∃a b,We h.aa rec=M a/\Ue l=M b/\ck l h c m rec a b=M (BE l h c m rec):=by
 have e:=(oQ hl d f hc m rec).2;unfold vA at e;rw[OQ,w2 U,p6 o0,hv,a!,p6 o0]at e;obtain⟨a,h1,e⟩:=Zp e;obtain⟨b,h2,e⟩:=Zp e
 simp_all
theorem WW(hl:m? l) (d:E' l) (g:h.aa.length<=64) (hc:c.au.as.length<=1048576) (hv:np l h c=M a38) {a b:Int}(hab:0<=a/\a<=b/\b<=3600) (rec:Int) :
 Oi l h c a b rec=M ((p! (b-a).toNat).map λ(j:Nat)=>BE l h c (a+j) rec):=by
 obtain⟨-,-,-,x,y,e,f,-⟩:=bq6 (l:=l) (h:=h) rec d g;unfold Oi;rw[e,a!,f,a!];have:ca (ag l h c b rec x y) (([]:List ke),a)=M (.inl ((p! (b-a).toNat).map λ(j:Nat)=>BE l h c (a+j) rec)):=by
  refine Nc (λj=>((p! j).map λ(j:Nat)=>BE l h c (a+j) rec,a+(j:Int))) (b-a).toNat _ (λj hj=>?_) ?_ o0
  .obtain⟨x',y',g1,g2,g3⟩:=XZ hl d g hc hv (m:=a+(j:Int)) U rec;rw[e]at g1;rw[f]at g2;cases g1;cases g2;unfold ag;dsimp only;rw[J,g3,a!,Od o4,a!,f? U U,show a+(j:Int)+1=a+((j+1:Nat):Int) by omega]
   grind[uac]
  grind[ag]
 simp_all
theorem uP(hl:m? l) (e:E' l) (g:h.aa.length<=64) (hc:c.au.as.length<=1048576) {a b:Int}(d:0<=a/\a<=b/\b<=3600/\b-a<=120) (rec:Int) :
 rj l h c a b rec=M ((p! (b-a).toNat).map λ(j:Nat)=>BE l h c (a+j) rec):=by
 unfold rj;rw[J (show¬a<0 by omega),J (show¬b<a by omega),J (show¬3600<b by omega),f? (n:=b-a) U U,w2 U,a!,p6 o0];obtain⟨v,v1,f,-⟩:=uN hl (λx hx=>N? (e.s x hx) p5) (h:=h) U hc;rw[f,a!]
 cases v with
 |true=>rw[J rfl,WW hl e g hc f ⟨d.1,d.2.1,d.2.2.1⟩ rec,a!]
 |false=>
  rw[p6 o0];have:ca (Yk b) (([]:List ke),a)=M (.inl ((p! (b-a).toNat).map λ(j:Nat)=>BE l h c (a+j) rec)):=by
   refine Nc (λj=>((p! j).map λ(j:Nat)=>BE l h c (a+j) rec,a+(j:Int))) (b-a).toNat _ (λj hj=>?_) ?_ o0
   .have hw:BE l h c (a+(j:Int)) rec=⟨a+(j:Int),0,1⟩:=by
     have hm:(Wa (a+(j:Int))).2=0:=nS.2 U;unfold BE
     simp_all
    unfold Yk;dsimp only;rw[J,Od o4,a!,f? U U,show a+(j:Int)+1=a+((j+1:Nat):Int) by omega]
    grind[uac]
   grind[Yk]
  simp_all
end
theorem WZ(A:List oe) (m:Int):Cu A m=Ti A m:=by
 have:Nt A m=Xe A m:=by
  grind[Nt,Xe,Oz,c!]
 grind[Cu,Ti]
theorem VZ(hl:A.length<=1048576) {l:List ke}(hn:l.length<=1048576):Ty l A=M (l.map (pK A)):=by
 rw[←N1 hl hn];have:Ew l A=Vg l A:=by
  funext ⟨a,i⟩;unfold Ew Vg;dsimp only;simp only[WZ];split
  .cases hi:c! l i with
   |none=>rfl
   |some x=>
    simp only[a!]
    cases Ti A x.j with
    |none=>rfl
    |some y=>cases b:y.2<;>simp[b]
  .rfl
 grind[Ty,Sj]
theorem MW:Jy m (P.filter λp=>p.j==m)=Jy m P:=by
 grind[Jy,Cad]
theorem NX:XH m (P.filter λp=>p.j==m)=XH m P:=by
 grind[XH,Cad]
theorem aE1(b:P.length<=1048576) {l:List ke}(hn:l.length<=1048576):BF l P=M (l.map (Yt P)):=by
 unfold BF;have:ca (Sy l P) (([]:List ot),0)=M (.inl (l.map (Yt P))):=by
  refine Nc (λi=>((l.take i).map (Yt P),(i:Int))) l.length _ (λi hi=>?_) ?_ rfl
  .unfold Sy;dsimp only;have hlen:((l.take i).map (Yt P)).length=i:=o4
   have hb:Yt P l[i]=⟨l[i].j,if l[i].Code=0 then l[i].ae else Jy l[i].j P,Jy l[i].j P,XH l[i].j P⟩:=by
    grind[Yt,ZT,w6,MW,NX]
   rw[J,va hi,a!,SK b,a!,sP b,a!,Fb hi,eac];by_cases a:l[i].Code=0
   .rw[p6 (v!.2 a),a!,Od o4,a!,pa U,D?,R?,hb,J a]
   .rw[J a,a!,Od o4,a!,pa U,D?,R?,hb,p6 a]
  grind[Sy]
 simp_all
theorem XQ{l:cb}(hl:m? l) (a:E' l) {t:na}(b:t.ag.aa.length<=64) {c:ma}(hc:c.au.as.length<=1048576) (d:t.al.length<=1048576) (ha:t.an.length<=1048576) (hf:0<=c.aj) (ht:to<c.aj+120) (rec:Int) :
 Cg l c t to rec=M (if to<c.aj\/3599<to then []else ZL l c t to rec):=by
 unfold Cg;rw[OQ];by_cases h:to<c.aj\/3599<to
 .simp_all
 rw[w2 h,p6 o0,p6 h,f? U U,uP hl a b hc U rec,a!];rw[p6 o4,VZ ha o4,a!,aE1 d o4,a!];simp only[maf];rfl
theorem ZC{l:List ot}(hl:l.length<=1048576):Oh l l=M a38:=by
 unfold Oh;rw[p6 o0];have:ca (uh l l) 0=M (.inl ()):=by
  refine Nc (λi=>(i:Int)) l.length _ (λi hi=>?_) ?_ rfl
  .unfold uh;rw[J,a!,s7 U,J (rfl:a38=a38),va hi,a!,a!,p6 o0,pa U]
  .simp[uh]
 rw[this];rfl
theorem au9{l:cb}(hl:m? l) (a:E' l) {t:na}(d:t.ag.aa.length<=64) {c:ma}(hc:c.au.as.length<=1048576) (e:t.al.length<=1048576) (ha:t.an.length<=1048576) (ht:0<=c.aj->to<c.aj\/3599<to\/to<c.aj+120) (rec:Int) :
 ∃B,Za l c t to rec=M B/\Cg l c t to rec=M B/\B.length<=120:=by
 by_cases h:to<c.aj\/3599<to
 .refine⟨[],?_,?_,o0⟩
  .unfold Za;rw[orQ,s7 h,J (rfl:a38=a38)]
  .unfold Cg;rw[OQ,s7 h,J (rfl:a38=a38)]
 by_cases hf:0<=c.aj
 .have:=ht hf;refine⟨_,iN hl a d hc e ha hf U rec,XQ hl a d hc e ha hf U rec,?_⟩;rw[p6 h];unfold ZL;simp only[Mab,List.length_range];omega
 .have f:∀b r,ie l t.ag c c.aj b r=M []:=λb r=>by
   unfold ie;rw[p6,a!,J rfl]
  have h2:∀b r,rj l t.ag c c.aj b r=M []:=λb r=>by
   unfold rj;rw[p6,a!,J rfl]
  refine⟨[],?_,?_,o0⟩
  .unfold Za;rw[orQ,w2 h,p6 o0,f,a!,J o0]
  .unfold Cg;rw[OQ,w2 h,p6 o0,h2,a!,J o0]
theorem ae7{c:ma}(h:ep c m=M a38):m<c.aj\/0<=m/\aa .i64 (m-c.aj)<8:=by
 unfold ep at h;by_cases a:m<c.aj
 .exact .inl a
 by_cases h2:0<=m
 .refine .inr ⟨h2,?_⟩
  simp_all
 .simp_all
theorem ae6{c:ma}(h:ep c m=M a38) (hf:0<=c.aj):m<c.aj\/3599<m\/m<c.aj+120:=by
 rcases ae7 h with h|⟨h1,h2⟩
 .exact .inl h
 by_cases h3:m<c.aj\/3599<m
 .omega
 .rw[f? U U]at h2;omega
theorem cE(f:Rr=M a38) {l:cb}(u:cs5 l) (j:aw8 l) (c:ma) (t:na) (q:b9):oh l c t q=M a38:=by
 unfold oh;obtain⟨b,hb,g⟩:=aB9 (l:=l) (c:=c) (t:=t);rw[hb,f,a!]
 cases b with
 |false=>rfl
 |true=>
  obtain⟨a,hc,hh,hp,ha⟩:=g rfl;have hf:E' l:=⟨a.nt,a.ns,a.rows u,λs i=>(a.s s i).rules⟩;have hl:=a.ok j;obtain⟨d,s1⟩:=aa4 c q.To;rw[J (rfl:a38=a38),s1];by_cases p:c.aj<0
  .simp[p]
  rw[J p,a!];have ht:0<=c.aj->(d=a39->3599<q.To)->q.To<c.aj\/3599<q.To\/q.To<c.aj+120:=λh e=>by
   cases d with
   |true=>exact ae6 s1 h
   |false=>exact .inr (.inl (e rfl))
  have fin:(d=a39->3599<q.To)->(b? (α:=Bool) ((Za l c t q.To q.ah).bind λv=>(Cg l c t q.To q.ah).bind λm=>(Oh v m).bind λn=>if n=a38 then(M a38).bind λo=>M o else M a39) λk=>M k)=M a38:=λe=>by
   obtain⟨B,e1,e2,e3⟩:=au9 hl hf (c:=c) (t:=t) U U U U (to:=q.To) (λh=>ht h e) q.ah;rw[e1,e2,a!,a!,ZC U];rfl
  cases d with
  |true=>
   rw[p6 o0,a!,p6 o0];exact fin o0
  |false=>
   rw[J rfl,a!];by_cases r:q.To<=3599
   .rw[s7 r,J rfl];rfl
   .rw[w2 r,p6 o0];exact fin λ_=>U
end Go.Proofs.Dev
