/-
  The functions as plain partial functions, and plain lemmas about them: no condition.
-/
import Derived.Test.YtjjfnbpfgfopbaaGreatDoorPB
import Derived.Test.YtjjfnbpfgfopbaaGreatDoorPD
import Derived.Test.YtjjfnbpfgfopbaaGreatDoorPC
import Derived.KernelRfl
open Bool renaming false_eq_true->Eaa
open Classical renaming not_not->waa
open Function renaming comp_apply->fae
open Int renaming le_of_eq->Oae,le_refl->dad,not_lt->rae
open List renaming any_eq_true->aad,filterMap_cons->ead,filterMap_nil->kae,filter_cons->cad,foldl_append->Sab,foldl_cons->gab,foldl_filter->sae,foldl_nil->dac,getElem?_eq_getElem->qaa,getElem_append_left->Dac,getElem_map->kac,getElem_mem->xaa,getElem_of_mem->Aaa,length_append->Taa,length_cons->uaa,length_map->lab,length_nil->Faa,length_range->qac,length_set->iad,length_take->vab,map_append->Zab,map_congr_left->Qab,map_cons->Gaa,map_map->Wad,map_nil->xab,mem_append->bab,mem_cons->oab,mem_cons_of_mem->nac,mem_map->fab,mem_of_mem_take->Tab,mem_singleton->uab,nil_append->Vaa,nodup_cons->Iab,range->zaa,replicate->raa,sum_cons->xad,take_length->yab
open List.Pairwise renaming imp->Kad
open List.Sublist renaming nodup->Sae
open Nat renaming le_refl->Haa,le_trans->Oab,lt_or_ge->Wab
open Option renaming any_some->lad,bind->oaa,bind_some->naa,getD_some->Rab
open Option.some renaming inj->Raa
set_option linter.all false
set_option maxRecDepth 10000
set_option maxHeartbeats 1000000
namespace Go.Proofs.Dev
open Go Go.Tm
theorem QC{l:List GFact}(hl:l.length<=1048576):Qs l l=some true:=by
 unfold Qs;rw[if_neg (by simp)];have e:ja (ql l l) 0=some (.inl ()):=Yg (step:=ql l l) (λi=>(i:Int)) l.length () (λi hi=>by
  unfold ql;simp only[show(i:Int)<(l.length:Int) by omega,if_true,decide_true,naa,Pa hi]
  grind[Ha]) (by grind[ql]) rfl
 simp_all
theorem wrap_i64(n:Int):ca .i64 n=(n+9223372036854775808) % 18446744073709551616-9223372036854775808:=by
 show vC n 9223372036854775808 18446744073709551616=_;unfold vC
 grind
theorem wrap_add(a b:Int):ca .i64 (ca .i64 a+b)=ca .i64 (a+b):=by
 grind[wrap_i64]
def cL(p:GPosting):Int:=if p.Kind=1 then p.Cents else if p.Kind=2\/p.Kind=3 then ca .i64 (-p.Cents)else 0
theorem KC(p:GPosting):Kn p=some (cL p):=by
 grind[Kn,cL]
def Xv(m:Int) (l:List GPosting):Int:=l.foldl (λs p=>if p.Month=m then ca .i64 (s+cL p)else s) 0
def SN(m:Int) (l:List GPosting):Int:=l.foldl (λs p=>if p.Month=m/\p.Kind=4 then ca .i64 (s+p.Cents)else s) 0
theorem ux{α:Type}(c:α->Bool) (v:α->Int):∀(l:List α) (s:Int),l.foldl (λs p=>if c p=true then ca .i64 (s+v p)else s) (ca .i64 s)=ca .i64 (s+(l.map λp=>if c p=true then v p else 0).sum)
 |[],s=>by simp
 |p::l,s=>by
  simp only[gab,Gaa,xad];by_cases h:c p=true
  .simp only[h,if_true];rw[wrap_add,ux c v l]
   grind
  .simp only[h,if_false,Eaa];rw[ux c v l];simp
theorem dY(p:GPosting):lG p=cL p:=by
 grind[lG,cL]
theorem kL(m:Int):∀l:List GPosting,((l.filter λp=>p.Kind==1).map λp=>if(p.Month==m)=true then lG p else 0).sum+((l.filter λp=>p.Kind==2).map λp=>if(p.Month==m)=true then lG p else 0).sum+((l.filter λp=>p.Kind==3).map λp=>if(p.Month==m)=true then lG p else 0).sum=(l.map λp=>if(p.Month==m)=true then cL p else 0).sum
 |[]=>rfl
 |p::l=>by
  have d:=kL m l;have h0:¬p.Kind=1->¬p.Kind=2->¬p.Kind=3->cL p=0:=λa b c=>by simp_all[cL]
  simp only[cad,Gaa,xad,beq_iff_eq,dY]at d⊢
  grind
theorem w0:ca .i64 0=0:=by decide
theorem lP(m:Int) (l:List GPosting):OC m l [1,2,3]=Xv m l:=by
 have a:Xv m l=ca .i64 (0+(l.map λp=>if(p.Month==m)=true then cL p else 0).sum):=by
  rw[←ux (λp=>p.Month==m) cL l 0,w0]
  simp_all[Xv]
 unfold OC;simp only[gab,dac];have e:∀k s,(l.filter λp=>p.Kind==k).foldl (λs p=>if(p.Month==m)=true then ca .i64 (s+lG p)else s) (ca .i64 s)=_:=λk s=>ux (λp:GPosting=>p.Month==m) lG _ s;rw[←w0,e,e,e,a,←kL m l];simp
theorem Vz{l:List GPosting}(hl:l.length<=1048576) (m:Int):lf l m=some (Xv m l):=by
 unfold lf;rw[if_pos (by omega),lP]
theorem JC{l:List GPosting}(hl:l.length<=1048576) (m:Int):Xg l m=some (SN m l):=by
 unfold Xg;rw[if_pos (by omega),sae]
 grind[SN]
theorem TE{β:Type}{k:Int}{x:β}{q:Int}:∀{l:List (Int×β)},wy (CG k x l) q=if q=k then some x else wy l q
 |[]=>rfl
 |(a,b)::l=>by
  unfold CG;split
  .grind[wy]
  .rename_i h;simp only[wy,TE (l:=l)]
   grind
theorem GR{m:Int}{l:List GPosting}{p:GPosting}:Xv m (l++[p])=if p.Month=m then ca .i64 (Xv m l+cL p)else Xv m l:=by
 grind[Xv]
theorem ffc{α ρ:Type}{l:List α}{q:α->Bool}{v:ρ}:ff (λi=>if(l[i]?.any q)=true then some v else none) l.length=if l.any q=true then some v else none:=by
 have h:=yI (l:=l) (q:=q) (g:=λ_=>v)
 cases hf:ff (λi=>if(l[i]?.any q)=true then some v else none) l.length with
 |none=>
  simp_all
 |some w=>
  rw[hf]at h;rw[if_pos (show l.any q=true from h.symm)]
  grind[Ob]
theorem tx{α ρ:Type}{l:List α}(hl:l.length<=1048576) (q:α->Bool) (v:ρ) {step:Int->Option (Ex Int Unit ρ)}
 (hs:∀i (h:i<l.length),step (i:Int)=some (if q l[i]=true then .ret v else .go (ca .i64 ((i:Int)+1)))) (he:step (l.length:Int)=some (.brk ())) :
 ja step 0=some (if l.any q=true then .inr v else .inl ()):=by
 have:ja step 0=some (Ki () (ff (λi=>if(l[i]?.any q)=true then some v else none) l.length)):=
  Th (λi=>(i:Int)) _ l.length () (λi hi _=>by
   grind[aD,Ha]) (λ_=>he)
 rw[this,ffc];by_cases h:l.any q=true
 .rw[if_pos h,if_pos h];rfl
 .rw[if_neg h,if_neg h];rfl
def LD(c:GPayConfig) (t:GAccount) (m:Int):Bool:=decide (m<c.FirstMonth\/t.LastMonth<m\/1000000000000000<Xv m t.Postings\/1000000000000000<SN m t.Postings)
theorem rV{l:List GPosting}(hl:l.length<=1048576):Jn l=some (Ig (l.map (·.Month))):=by
 unfold Jn;have:ja (Mj l) (([]:List Int),0)=some (.inl (l.map (·.Month))):=by
  refine Yg (λi=>((l.take i).map (·.Month),(i:Int))) l.length _ (λi hi=>?_) ?_ rfl
  .have h2:(l.take i).length<=l.length:=by grind
   unfold Mj;dsimp only;rw[if_pos (by omega),Pa hi,naa,kj (by grind),naa,Ha (by omega),Td hi]
   grind
  simp_all[Mj]
 grind[rP]
theorem NK{c:GPayConfig}{t:GAccount}(hl:t.Postings.length<=1048576) {L:List Int}(a:L.length<=1048576):ja (Hg c t L) 0=some (if L.any (LD c t)=true then .inr 3 else .inl ()):=by
 refine tx a _ _ (λi hi=>?_) ?_
 .unfold Hg;rw[if_pos (by omega),Pa hi];simp only[naa,Vz hl,JC hl]
  grind[LD]
 simp_all[Hg]
theorem RL{c:GPayConfig}{t:GAccount}:(Ig (t.Postings.map (·.Month))).any (LD c t)=t.Postings.any λp=>LD c t p.Month:=by
 rw[Bool.eq_iff_iff,aad,aad];constructor
 .rintro⟨m,hm,hb⟩;obtain⟨p,a,rfl⟩:=fab.1 (((dh _).2.2 _).1 hm)
  grind
 .rintro⟨p,a,hb⟩;exact⟨p.Month,((dh _).2.2 _).2 (fab.2 ⟨p,a,rfl⟩),hb⟩
def oH(t:GAccount):Bool:=(t.Household.Facts.any λf=>decide (t.Date<f.Recorded)) || ((t.Postings.any λp=>decide (t.Date<p.Date)) || t.Appeals.any λa=>decide (t.Date<a.Filed))
theorem OU{t:GAccount}(a:t.Household.Facts.length<=1048576) (h2:t.Postings.length<=1048576) (b:t.Appeals.length<=1048576):km t=some (!oH t):=by
 unfold km oH;rw[tx a (λf=>decide (t.Date<f.Recorded)) false (λi hi=>by
  unfold Ll;rw[if_pos (by omega),Pa hi,naa]
  grind) (by grind[Ll])]
 rw[tx h2 (λf=>decide (t.Date<f.Date)) false (λi hi=>by
  unfold Kl;rw[if_pos (by omega),Pa hi,naa]
  grind) (by grind[Kl])]
 rw[tx b (λf=>decide (t.Date<f.Filed)) false (λi hi=>by
  unfold Jl;rw[if_pos (by omega),Pa hi,naa]
  grind) (by grind[Jl])]
 grind
def lk(p:GPosting):Prop:=(0<=p.Date/\p.Date<=109572)/\(0<=p.Month/\p.Month<=3599)/\(1<=p.Cents/\p.Cents<=1000000000000000)/\1<=p.Kind/\p.Kind<=4
instance (p:GPosting):Decidable (lk p):=by unfold lk;infer_instance
def iw(l:List GPosting):Prop:=l.length<=4096/\∀i (h:i<l.length),lk l[i]/\(∀_:0<i,l[i-1].Date<=l[i].Date)/\0<=Xv l[i].Month (l.take (i+1))
def yG(l:List GPosting):List (Int×Int):=l.foldl (λm p=>CG p.Month (ca .i64 ((wy m p.Month).getD 0+cL p)) m) []
theorem rH{l:List GPosting}{p:GPosting}:yG (l++[p])=CG p.Month (ca .i64 ((wy (yG l) p.Month).getD 0+cL p)) (yG l):=by simp[yG]
theorem jV(l:List GPosting) (q:Int):(wy (yG l) q).getD 0=Xv q l:=by
 have key:∀i,i<=l.length->∀q,(wy (yG (l.take i)) q).getD 0=Xv q (l.take i):=by
  intro i
  induction i with
  |zero=>intro _ q;rfl
  |succ i a=>
   intro hi q;rw[Td hi,rH,TE,GR];by_cases h:q=l[i].Month
   .subst h;simp only[if_true,Rab,a (by omega)]
   .rw[if_neg h,if_neg λe=>h e.symm,a (by omega)]
 have:=key l.length (Haa _) q;rwa [yab]at this
def uG(l:List GPosting) (i:Nat):Option (Int×Int):=
 match l[i]? with
 |none=>none
 |some p=>if p.Date<0\/109572<p.Date\/p.Month<0\/3599<p.Month\/p.Cents<1\/1000000000000000<p.Cents then some ((i:Int),3)else if p.Kind<1\/4<p.Kind then some ((i:Int),1)
  else if 0<i/\((l[i-1]?).any λq=>decide (p.Date<q.Date))=true then some ((i:Int),9)else if Xv p.Month (l.take (i+1))<0 then some ((i:Int),13)else none
theorem Wz(l:List GPosting):Vk l=some (if 4096<(l.length:Int)then(4096,4)else(ff (uG l) l.length).getD (0,0)):=by
 unfold Vk;by_cases hl:4096<(l.length:Int)
 .simp_all
 rw[if_neg hl,if_neg hl];have:ja (Bh l) (([]:List (Int×Int)),0)=some (Ki () (ff (uG l) l.length)):=by
  refine Th (λi=>(yG (l.take i),(i:Int))) _ l.length () (λj hj _=>?_) (λ_=>?_)
  .unfold Bh;dsimp only;rw[if_pos (by omega),Pa hj,naa];have c:(oaa (α:=Bool) (oaa (α:=Bool) (if¬l[j].Date<0 then some (decide (109572<l[j].Date))else some true) λf=>if f=true then some true else oaa (α:=Bool) (if¬l[j].Month<0 then some (decide (3599<l[j].Month))else some true) λd=>if d=true then some true else if¬l[j].Cents<1 then some (decide (1000000000000000<l[j].Cents))else some true) λb=>some b)=some (decide (l[j].Date<0\/109572<l[j].Date\/l[j].Month<0\/3599<l[j].Month\/l[j].Cents<1\/1000000000000000<l[j].Cents)):=by
    grind
   have bi:∀o:Option Bool,(oaa o λb=>some b)=o:=λo=>by simp
   rw[bi]at c;rw[c];unfold uG;rw[qaa hj];dsimp only;simp only[naa];by_cases g:l[j].Date<0\/109572<l[j].Date\/l[j].Month<0\/3599<l[j].Month\/l[j].Cents<1\/1000000000000000<l[j].Cents
   .rw[decide_eq_true g,if_pos (rfl:true=true),if_pos g,FO]
   rw[decide_eq_false g,if_neg (by simp),if_neg g];rw[y6];by_cases g2:l[j].Kind<1\/4<l[j].Kind
   .rw[decide_eq_true g2,if_pos (rfl:true=true),if_pos g2,FO]
   rw[decide_eq_false g2,if_neg (by simp),if_neg g2];have ho:(if(0:Int)<(j:Int)then(idx l (ca .i64 ((j:Int)-1))).bind λe=>some (decide (l[j].Date<e.Date))else some false)=some (decide (0<j/\((l[j-1]?).any λq=>decide (l[j].Date<q.Date))=true)):=by
    by_cases a:0<j
    .rw[if_pos (by omega),wid (by omega) (by omega),show((j:Int)-1)=((j-1:Nat):Int) by omega,Pa (by omega),qaa (by omega)];simp[a]
    .simp[a]
   rw[ho,naa];by_cases g3:0<j/\((l[j-1]?).any λq=>decide (l[j].Date<q.Date))=true
   .rw[decide_eq_true g3,if_pos (rfl:true=true),if_pos g3,FO]
   rw[decide_eq_false g3,if_neg (by simp),if_neg g3];have hm:CG l[j].Month (ca .i64 ((wy (yG (l.take j)) l[j].Month).getD 0+cL l[j])) (yG (l.take j))=yG (l.take (j+1)):=by rw[Td hj,rH]
   rw[KC,naa,hm,jV,Ha (by omega)];by_cases a:Xv l[j].Month (l.take (j+1))<0
   .rw[if_pos a,if_pos a,FO]
   .rw[if_neg a,if_neg a,goR_n]
  .simp_all[Bh]
 rw[this,naa];cases ff (uG l) l.length<;>rfl
theorem ZG{l:List GPosting}{i:Nat}(h:i<l.length):uG l i=none↔lk l[i]/\(∀_:0<i,l[i-1].Date<=l[i].Date)/\0<=Xv l[i].Month (l.take (i+1)):=by
 unfold uG lk;rw[qaa h,qaa (show i-1<l.length by omega)];dsimp only;by_cases b:l[i].Date<0\/109572<l[i].Date\/l[i].Month<0\/3599<l[i].Month\/l[i].Cents<1\/1000000000000000<l[i].Cents
 .rw[if_pos b];simp;omega
 rw[if_neg b];by_cases h2:l[i].Kind<1\/4<l[i].Kind
 .rw[if_pos h2];simp;omega
 rw[if_neg h2];by_cases a:0<i/\((some l[i-1]).any λq=>decide (l[i].Date<q.Date))=true
 .rw[if_pos a];simp only[lad,decide_eq_true_eq]at a;simp only[reduceCtorEq,false_iff];intro ⟨_,h,_⟩;have:=h a.1;omega
 rw[if_neg a];simp only[lad,decide_eq_true_eq,not_and]at a;by_cases c:Xv l[i].Month (l.take (i+1))<0
 .rw[if_pos c];simp;omega
 .rw[if_neg c];simp only[true_iff];exact⟨by omega,λhi=>by have:=a hi;omega,by omega⟩
theorem KY{l:List GPosting}{i:Nat}{v:Int×Int}(h:uG l i=some v):v.2≠0:=by
 unfold uG at h
 grind
theorem jB{l:List GPosting}:(if 4096<(l.length:Int)then((4096,4):Int×Int)else(ff (uG l) l.length).getD (0,0)).2=0↔iw l:=by
 unfold iw;by_cases hl:4096<(l.length:Int)
 .rw[if_pos hl];simp;omega
 rw[if_neg hl]
 cases h:ff (uG l) l.length with
 |none=>
  simp only[Option.getD_none,true_iff];exact⟨by omega,λi hi=>(ZG hi).1 (Jb.1 h i hi)⟩
 |some v=>
  simp only[Rab];obtain⟨i,b,h2,-⟩:=Ob.1 h;constructor
  .intro a;exact absurd a (KY h2)
  .intro ⟨_,a⟩;rw[(ZG b).2 (a i b)]at h2;cases h2
def ew(p:GPosting):Int:=if p.Kind=1 then p.Cents else if p.Kind=2\/p.Kind=3 then -p.Cents else 0
def UC(p:GPosting):Int:=if p.Kind=4 then p.Cents else 0
def Fg(f:GPosting->Int) (m:Int):List GPosting->Int
 |[]=>0
 |p::l=>(if p.Month=m then f p else 0)+Fg f m l
theorem Ou{f:GPosting->Int}{m:Int}:∀{a b:List GPosting},Fg f m (a++b)=Fg f m a+Fg f m b
 |[],b=>by simp[Fg]
 |p::a,b=>by simp only[List.cons_append,Fg,Ou (a:=a)];omega
theorem Pu{f:GPosting->Int}{m:Int}:∀{l:List GPosting},(∀p∈l,p.Month≠m)->Fg f m l=0
 |[],_=>rfl
 |p::l,h=>by
  rw[Fg,if_neg (h p (by simp)),Pu λq hq=>h q (by simp[hq])];rfl
theorem FF{f:GPosting->Int}:∀{l:List GPosting}{q:GPosting},(l.map (·.Month)).Nodup->q∈l->Fg f q.Month l=f q
 |p::l,q,hn,hq=>by
  simp only[Gaa,Iab]at hn;rcases oab.1 hq with rfl|hq
  .rw[Fg,if_pos rfl,Pu λx hx he=>hn.1 (fab.2 ⟨x,hx,he⟩)];omega
  .rw[Fg,if_neg (λhe=>hn.1 (fab.2 ⟨q,hq,he.symm⟩)),FF hn.2 hq];omega
theorem RR{p:GPosting}(h:lk p):-1000000000000000<=ew p/\ew p<=1000000000000000:=by
 obtain⟨-,-,h,-⟩:=h;unfold ew;split
 .omega
 .split<;>omega
theorem MH{p:GPosting}(h:lk p):0<=UC p/\UC p<=1000000000000000:=by
 obtain⟨-,-,h,-⟩:=h;unfold UC;split<;>omega
theorem EF{f:GPosting->Int}{m:Int}:∀{l:List GPosting},(∀p∈l,-1000000000000000<=f p/\f p<=1000000000000000)->-1000000000000000*(l.length:Int)<=Fg f m l/\Fg f m l<=1000000000000000*(l.length:Int)
 |[],_=>by simp[Fg]
 |p::l,h=>by
  have ih:=EF (m:=m) λq hq=>h q (nac _ hq);have hp:=h p (by simp);rw[Fg,uaa];split<;>omega
theorem sgP_Z{p:GPosting}(h:lk p):cL p=ew p:=by
 obtain⟨-,-,h,-⟩:=h;unfold cL ew;rw[wid (by omega) (by omega)]
theorem gK(c:GPosting->Prop) [DecidablePred c] (v f:GPosting->Int) (m:Int):∀(l:List GPosting),(l.length<=8200)->(∀p∈l,-1000000000000000<=f p/\f p<=1000000000000000)->(∀p∈l,(if c p then v p else 0)=if p.Month=m then f p else 0)->
 l.foldl (λs p=>if c p then ca .i64 (s+v p)else s) 0=Fg f m l:=by
 intro l hl hb hc;have key:∀i,i<=l.length->(l.take i).foldl (λs p=>if c p then ca .i64 (s+v p)else s) 0=Fg f m (l.take i):=by
  intro i
  induction i with
  |zero=>intro _;rfl
  |succ i g=>
   intro hi;have b:l[i]∈l:=xaa hi;have e:=EF (m:=m) (l:=l.take i) λq hq=>hb q (Tab hq);have d:(l.take i).length=i:=by rw[vab];omega
   rw[d]at e;have hbi:=hb _ b;have a:=hc _ b;rw[Td hi,Sab,g (by omega),Ou];simp only[gab,dac,Fg];rw[←a];by_cases h:c l[i]
   .rw[if_pos h]at a;rw[if_pos h,if_pos h,wid (by split at a<;>omega) (by split at a<;>omega)];omega
   .rw[if_neg h,if_neg h];omega
 have:=key l.length (Haa _);rwa [yab]at this
theorem Ww{l:List GPosting}(hl:l.length<=8200) (a:∀p∈l,lk p) (m:Int):Xv m l=Fg ew m l:=
 gK (λp=>p.Month=m) cL ew m l hl (λp h=>RR (a p h)) λp h=>by rw[sgP_Z (a p h)]
theorem XF{l:List GPosting}(hl:l.length<=8200) (b:∀p∈l,lk p) (m:Int):SN m l=Fg UC m l:=
 gK (λp=>p.Month=m/\p.Kind=4) (·.Cents) UC m l hl (λp h=>by have:=MH (b p h);omega) λp h=>by
  unfold UC;by_cases a:p.Month=m<;>by_cases h2:p.Kind=4<;>simp[a,h2]
theorem iw.post{l:List GPosting}(h:iw l):∀p∈l,lk p:=by
 intro p a;obtain⟨i,hi,rfl⟩:=Aaa a;exact(h.2 i hi).1
theorem Ov{m:Int}:∀{l:List GPosting},(∀p∈l,lk p)->0<=Fg UC m l
 |[],_=>dad _
 |p::l,h=>by
  have ih:=Ov (m:=m) λq hq=>h q (nac _ hq);have:=MH (h p (by simp));rw[Fg];split<;>omega
theorem oL{α:Type}{a b:List α}{i:Nat}(h:i<=a.length):(a++b).take i=a.take i:=by
 rw[List.take_append_of_le_length h]
theorem nL{α:Type}{a b:List α}{i:Nat}:(a++b).take (a.length+i)=a++b.take i:=by
 rw[List.take_length_add_append]
theorem addQ{l Q:List GPosting}(h:iw l) {d:Int}(hd:∀p∈l,p.Date<=d) (hq:∀q∈Q,lk q/\q.Date=d) (hn:(Q.map (·.Month)).Nodup) (o:∀q∈Q,0<=Fg ew q.Month l+ew q) (hl:l.length+Q.length<=4096):iw (l++Q):=by
 refine⟨by rw[Taa];exact hl,λi hi=>?_⟩;rw[Taa]at hi;rcases Wab i l.length with m|m
 .obtain⟨a,b,c⟩:=h.2 i m;rw[Dac m,oL (by omega)];refine⟨a,λn=>?_,c⟩;rw[Dac (by omega)];exact b n
 .obtain⟨j,rfl⟩:∃j,i=l.length+j:=⟨i-l.length,by omega⟩;have hj:j<Q.length:=by omega
  have e:(l++Q)[l.length+j]=Q[j]:=by simp
  rw[e];obtain⟨a,b⟩:=hq _ (xaa hj);refine⟨a,λn=>?_,?_⟩
  .rw[b];rcases Nat.eq_zero_or_pos j with rfl|hj0
   .rw[Dac (by omega)];exact hd _ (xaa _)
   .rw[List.getElem_append_right (by omega)];exact Oae (hq _ (xaa _)).2
  .rw[show l.length+j+1=l.length+(j+1) by omega,nL];have g:∀p∈l++Q.take (j+1),lk p:=by
    intro p k;rcases bab.1 k with k|k
    .exact h.post p k
    .exact(hq p (Tab k)).1
   rw[Ww (by have:=h.1;rw[Taa,vab];omega) g,Ou];have hm:Q[j]∈Q.take (j+1):=by
    rw[Td hj];exact List.mem_append_right _ (uab.2 rfl)
   rw[FF (f:=ew) (Sae ((List.take_sublist _ _).map _) hn) hm];exact o _ (xaa hj)
def jt(a:GAppeal):Prop:=0<=a.Id/\(0<=a.From/\a.From<a.To/\a.To<=3600/\a.To-a.From<=120)/\(0<=a.Filed/\a.Filed<=a.Deadline/\a.Deadline<=109572)/\(1<=a.State/\a.State<=6)/\(0<=a.Cents/\a.Cents<=1000000000000000)/\(a.Cents=0\/a.State=3)
instance (a:GAppeal):Decidable (jt a):=by unfold jt;infer_instance
theorem By(a b:Int):fe a b=some (decide (0<=a/\a<b/\b<=3600/\b-a<=120)):=by
 unfold fe;by_cases c:0<=a
 case neg=>simp[c]
 by_cases h2:a<b
 case neg=>simp[c,h2]
 by_cases d:b<=3600
 case neg=>simp[c,h2,d]
 rw[wid (by omega) (by omega)];simp[c,h2,d]
theorem ID(a:GAppeal):No a=some (decide (jt a)):=by
 unfold No jt;rw[By];by_cases b:a.Id<0
 .have:¬0<=a.Id:=by omega
  simp[b,this]
 have f:0<=a.Id:=by omega
 by_cases h2:0<=a.From/\a.From<a.To/\a.To<=3600/\a.To-a.From<=120
 case neg=>simp only[b,h2,not_false_eq_true,if_true,naa,decide_false,Bool.not_false,and_false,false_and]
 by_cases c:a.Filed<0
 .have:¬0<=a.Filed:=by omega
  simp[b,h2,c,this]
 have i:0<=a.Filed:=by omega
 by_cases d:a.Deadline<a.Filed
 .have:¬a.Filed<=a.Deadline:=by omega
  simp[b,h2,c,d,this]
 have j:a.Filed<=a.Deadline:=by omega
 by_cases e:109572<a.Deadline
 .have:¬a.Deadline<=109572:=by omega
  simp[b,h2,c,d,e,this]
 have k:a.Deadline<=109572:=by omega
 by_cases l:a.State<1
 .have:¬1<=a.State:=by omega
  simp[b,h2,c,d,e,l,this]
 have m:1<=a.State:=by omega
 by_cases o:6<a.State
 .have:¬a.State<=6:=by omega
  simp[b,h2,c,d,e,l,o,this]
 have n:a.State<=6:=by omega
 by_cases p:0<=a.Cents<;>by_cases q:a.Cents<=1000000000000000<;>by_cases g:a.Cents=0<;>by_cases h:a.State=3<;>simp[b,h2,c,d,e,l,o,f,i,j,k,m,n,p,q,g,h]
def Bp(c:GPayConfig) (m:Int):Prop:=c.FirstMonth<=m/\m<=min 3599 (ca .i64 (ca .i64 (c.FirstMonth+120)-1))
instance (c:GPayConfig) (m:Int):Decidable (Bp c m):=by unfold Bp;infer_instance
theorem qB(c:GPayConfig) (m:Int):Vh c m=some (decide (Bp c m)):=by
 unfold Vh Bp;by_cases h:c.FirstMonth<=m<;>simp[h]
theorem Pz(d:Int):wj d=some (decide (0<=d/\d<=109572)):=by
 unfold wj;by_cases h:0<=d<;>simp[h]
structure AccOk (l:GLaw) (c:GPayConfig) (t:GAccount):Prop where
 cf:Ga l t.Household.Scope c=some 0
 hv:(BX l t.Household).2=0
 date:0<=t.Date/\t.Date<=109572
 last:t.LastMonth = -1\/Bp c t.LastMonth
 led:iw t.Postings
 mon:∀p∈t.Postings,LD c t p.Month=false
 GM:t.Appeals.length<=16
 app:∀i (h:i<t.Appeals.length),jt t.Appeals[i]/\t.Appeals[i].Id=(i:Int)
 late:oH t=false
theorem UH{t:GAccount}(h3:t.Appeals.length<=1048576):ja (Gg t) 0=some (Ki () (ff (λi=>match t.Appeals[i]? with|some a=>if jt a/\a.Id=(i:Int)then none else some (13:Int)|none=>none) t.Appeals.length)):=by
 refine Th (λi=>(i:Int)) _ t.Appeals.length () (λi hi _=>?_) (λ_=>?_)
 .unfold Gg;rw[if_pos (by omega),Pa hi,naa,ID,qaa hi,naa];dsimp only;by_cases b:jt t.Appeals[i]
  .by_cases h2:t.Appeals[i].Id=(i:Int)
   .simp[b,h2,aD,Ha (show i<4611686018427387904 by omega)]
   .simp[b,h2,aD]
  .simp[b,aD]
 .simp[Gg]
theorem nk{l:GLaw}(hl:LawOk l) {c:GPayConfig}(hc:c.Calendar.Holidays.length<=1048576) {t:GAccount}(A:t.Household.Facts.length<=1048576) (h2:t.Postings.length<=1048576) (u:t.Appeals.length<=1048576) :
 ∃n,me l c t=some n/\(n=0↔AccOk l c t):=by
 obtain⟨n,s⟩:=HJ hl hc t.Household.Scope;unfold me;rw[s,bg l t.Household hl.ns];simp only[naa];by_cases k:n=0
 case neg=>
  rw[if_pos k];refine⟨1,rfl,by simp,λh=>absurd ?_ k⟩;have:=h.cf;rw[s]at this;exact Raa this
 rw[if_neg (waa.2 k)];by_cases hv:(BX l t.Household).2=0
 case neg=>rw[if_pos hv];exact⟨_,rfl,λh=>absurd h hv,λh=>absurd h.hv hv⟩
 rw[if_neg (waa.2 hv),Pz,qB,naa];have hd:(oaa (α:=Bool) (if decide (0<=t.Date/\t.Date<=109572)=true then if¬t.LastMonth = -1 then(some (decide (Bp c t.LastMonth))).bind λB=>some (!B)else some false else some true) λb=>some b)=some (decide (¬((0<=t.Date/\t.Date<=109572)/\(t.LastMonth = -1\/Bp c t.LastMonth)))):=by
  by_cases x:0<=t.Date/\t.Date<=109572<;>by_cases y:t.LastMonth = -1<;>by_cases z:Bp c t.LastMonth<;>simp[x,y,z]
 rw[show∀o:Option Bool,(oaa o λb=>some b)=o from λo=>by simp]at hd;rw[hd,naa];by_cases a:(0<=t.Date/\t.Date<=109572)/\(t.LastMonth = -1\/Bp c t.LastMonth)
 case neg=>
  rw[decide_eq_true a,if_pos (rfl:true=true)];exact⟨3,rfl,by simp,λh=>absurd ⟨h.date,h.last⟩ a⟩
 rw[decide_eq_false (waa.2 a),if_neg (by simp),Wz,naa];by_cases d:iw t.Postings
 case neg=>
  rw[if_pos (λe=>d (jB.1 e))];exact⟨_,rfl,λe=>absurd (jB.1 e) d,λh=>absurd h.led d⟩
 rw[if_neg (waa.2 (jB.2 d))];have m:=vu (t.Postings.map (·.Month));rw[lab]at m;rw[rV h2,naa,NK h2 (by omega),RL,naa];by_cases hm:(t.Postings.any λp=>LD c t p.Month)=true
 .rw[if_pos hm];refine⟨3,rfl,by simp,λh=>?_⟩;obtain⟨p,r,g⟩:=aad.1 hm;rw[h.mon p r]at g;cases g
 rw[if_neg hm];dsimp only;have q:∀p∈t.Postings,LD c t p.Month=false:=λp d=>by
  cases hb:LD c t p.Month
  .rfl
  .exact absurd (aad.2 ⟨p,d,hb⟩) hm
 by_cases ha:16<(t.Appeals.length:Int)
 .rw[if_pos ha];exact⟨4,rfl,by simp,λh=>by have:=h.GM;omega⟩
 rw[if_neg ha,UH u,naa]
 cases hf:ff (λi=>match t.Appeals[i]? with|some a=>if jt a/\a.Id=(i:Int)then none else some (13:Int)|none=>none) t.Appeals.length with
 |some v=>
  obtain⟨i,w,j,-⟩:=Ob.1 hf;rw[qaa w]at j;dsimp only at j;split at j
  .cases j
  .rename_i hx;obtain rfl:=Raa j;exact⟨13,rfl,by simp,λh=>absurd (h.app i w) hx⟩
 |none=>
  simp only[aN];have f:∀i (h:i<t.Appeals.length),jt t.Appeals[i]/\t.Appeals[i].Id=(i:Int):=λi hi=>by
   have:=Jb.1 hf i hi;rw[qaa hi]at this;dsimp only at this;split at this
   .assumption
   .cases this
  rw[OU A h2 u,naa]
  cases hb:oH t with
  |true=>exact⟨9,rfl,by simp,λh=>by have:=h.late;rw[hb]at this;cases this⟩
  |false=>exact⟨0,rfl,λ_=>⟨by rw[s,k],hv,a.1,a.2,d,q,by omega,f,hb⟩,λ_=>rfl⟩
structure BalB (b:GMonthBalance):Prop where
 due:0<=b.Due/\b.Due<=1000000000000000
 rcv:0<=b.Received/\b.Received<=1000000000000000
 wai:0<=b.Waived/\b.Waived<=1000000000000000
 mon:0<=b.Month/\b.Month<=3599
def Sv(b:GMonthBalance):Int:=max (b.Due-b.Received) 0
def dq(b:GMonthBalance):Int:=max (b.Received-b.Due-b.Waived) 0
theorem arr_s{b:GMonthBalance}(h:BalB b):Sk b=some (Sv b):=by
 obtain⟨h1,h2,h3,h4⟩:=h;unfold Sk Sv;rw[wid (by omega) (by omega)]
theorem JK{b:GMonthBalance}(h:BalB b):Cd b=some (dq b):=by
 obtain⟨h1,h2,h3,h4⟩:=h;unfold Cd dq;rw[wid (n:=b.Received-b.Due) (by omega) (by omega),wid (by omega) (by omega)]
theorem D5{b:GMonthBalance}(h:BalB b):0<=Sv b/\Sv b<=1000000000000000:=by
 obtain⟨h1,h2,h3,h4⟩:=h;unfold Sv;omega
theorem z6{b:GMonthBalance}(h:BalB b):0<=dq b/\dq b<=1000000000000000:=by
 obtain⟨h1,h2,h3,h4⟩:=h;unfold dq;omega
def ct(to d:Int) (l:List GMonthBalance):List GPosting:=l.filterMap λb=>if b.Month<=to/\0<Sv b then some ⟨d,b.Month,1,Sv b⟩else none
def oy(l:List GPosting):Int:=(l.map (·.Cents)).sum
theorem QW{a b:List GPosting}:oy (a++b)=oy a+oy b:=by simp[oy]
def Ho(kind d:Int) (om:Int->Bool):Int->List GMonthBalance->List GPosting×Int
 |rem,[]=>([],rem)
 |rem,b::bs=>if 0<rem then(if dq b<=0\/om b.Month=true then Ho kind d om rem bs else(⟨d,b.Month,kind,min (dq b) rem⟩::(Ho kind d om (rem-min (dq b) rem) bs).1,(Ho kind d om (rem-min (dq b) rem) bs).2))else([],rem)
theorem dF{to d:Int}{l:List GMonthBalance}:(ct to d l).length<=l.length:=List.length_filterMap_le _ _
theorem jF{to d:Int}:∀{l:List GMonthBalance},(∀b∈l,BalB b)->0<=oy (ct to d l)/\oy (ct to d l)<=1000000000000000*(l.length:Int)
 |[],_=>by simp[ct,oy]
 |b::l,h=>by
  have a:=jF (to:=to) (d:=d) (l:=l) λx hx=>h x (by simp[hx]);have hb:=D5 (h b (by simp));unfold ct at a⊢;rw[ead];by_cases hc:b.Month<=to/\0<Sv b
  .rw[if_pos hc];simp only[oy,Gaa,xad,uaa]at a⊢;omega
  .rw[if_neg hc];simp only[uaa];omega
theorem sP{α:Type}{x:α}{l:List α}:Zy (x::l) 1=some l:=by
 have:=OW (l:=x::l) (i:=1) (by simp);simpa using this
theorem tZ{α:Type}{x:α}{l:List α}:idx (x::l) 0=some x:=by
 have:=Pa (l:=x::l) (i:=0) (by simp);simpa using this
theorem tB{d:Int}{f:List (Int×Bool)}:∀{l:List GMonthBalance}{rem:Int}{acc:List GPosting},(∀b∈l,BalB b)->acc.length+l.length<=1048576->0<=rem/\rem<9223372036854775807->
 ja (Hf d f) (rem,acc,l)=some (.inl ((Ho 2 d (λm=>(wy f m).getD false) rem l).2,acc++(Ho 2 d (λm=>(wy f m).getD false) rem l).1))
 |[],rem,acc,_,_,_=>by
  refine(Gb (b:=(rem,acc)) ?_).trans (by simp[Ho]);simp[Hf]
 |b::l,rem,acc,hb,hl,hr=>by
  have a:=hb b (by simp);have ho:=z6 a;simp only[uaa]at hl;by_cases c:0<rem
  case neg=>
   refine(Gb (b:=(rem,acc)) ?_).trans (by simp[Ho,c]);unfold Hf;simp[c]
  rw[Ho,if_pos c];by_cases hc:dq b<=0\/(wy f b.Month).getD false=true
  .rw[if_pos hc];rw[ud (s':=(rem,acc,l)) ?_,tB (λx hx=>hb x (by simp[hx])) (by omega) hr];unfold Hf;simp only[uaa,tZ,naa,JK a,sP];rw[if_pos (by omega),naa,decide_eq_true c,if_pos (rfl:true=true)];by_cases g:dq b<=0
   .simp[g]
   .rcases hc with h|h
    .exact absurd h g
    .simp[g,h]
  .rw[if_neg hc];have e:=not_or.1 hc;rw[ud (s':=(rem-min (dq b) rem,acc++[⟨d,b.Month,2,min (dq b) rem⟩],l)) ?_,tB (λx hx=>hb x (by simp[hx])) (by rw[Taa];simp only[uaa,Faa];omega) (by omega)]
   .simp
   .unfold Hf;simp only[uaa,tZ,naa,JK a,sP];rw[if_pos (by omega),naa,decide_eq_true c,if_pos (rfl:true=true),kj (by simp only[uaa,Faa];omega),wid (by omega) (by omega)];simp[e.1,e.2]
theorem Vy{d:Int}:∀{l:List GMonthBalance}{rem:Int}{acc:List GPosting},(∀b∈l,BalB b)->acc.length+l.length<=1048576->0<=rem/\rem<9223372036854775807->
 ja (Te d) (rem,acc,l)=some (.inl ((Ho 3 d (λ_=>false) rem l).2,acc++(Ho 3 d (λ_=>false) rem l).1))
 |[],rem,acc,_,_,_=>by
  refine(Gb (b:=(rem,acc)) ?_).trans (by simp[Ho]);simp[Te]
 |b::l,rem,acc,hb,hl,hr=>by
  have a:=hb b (by simp);have ho:=z6 a;simp only[uaa]at hl;by_cases c:0<rem
  case neg=>
   refine(Gb (b:=(rem,acc)) ?_).trans (by simp[Ho,c]);unfold Te;simp[c]
  rw[Ho,if_pos c];by_cases e:dq b<=0
  .rw[if_pos (.inl e)];rw[ud (s':=(rem,acc,l)) ?_,Vy (λx hx=>hb x (by simp[hx])) (by omega) hr];unfold Te;simp only[uaa,tZ,naa,JK a,sP];rw[if_pos (by omega),naa,decide_eq_true c,if_pos (rfl:true=true)];simp[e]
  .rw[if_neg (by simp[e])];rw[ud (s':=(rem-min (dq b) rem,acc++[⟨d,b.Month,3,min (dq b) rem⟩],l)) ?_,Vy (λx hx=>hb x (by simp[hx])) (by rw[Taa];simp only[uaa,Faa];omega) (by omega)]
   .simp
   .unfold Te;simp only[uaa,tZ,naa,JK a,sP];rw[if_pos (by omega),naa,decide_eq_true c,if_pos (rfl:true=true),kj (by simp only[uaa,Faa];omega),wid (by omega) (by omega)];simp[e]
theorem As{kind d:Int}{om:Int->Bool}:∀{l:List GMonthBalance}{rem:Int}{q:GPosting},q∈(Ho kind d om rem l).1->∃b∈l,q.Month=b.Month/\q.Date=d/\q.Kind=kind/\1<=q.Cents/\q.Cents<=dq b/\om b.Month=false
 |[],rem,q,h=>by simp[Ho]at h
 |b::l,rem,q,h=>by
  rw[Ho]at h;by_cases a:0<rem
  case neg=>rw[if_neg a]at h;simp at h
  rw[if_pos a]at h;by_cases hc:dq b<=0\/om b.Month=true
  .rw[if_pos hc]at h;obtain⟨x,hx,r⟩:=As h;exact⟨x,by simp[hx],r⟩
  .rw[if_neg hc]at h;rcases oab.1 h with rfl|h
   .exact⟨b,by simp,rfl,rfl,rfl,by simp only;omega,by simp only;omega,by simpa using(not_or.1 hc).2⟩
   .obtain⟨x,hx,r⟩:=As h;exact⟨x,by simp[hx],r⟩
theorem iv{kind d:Int}{om:Int->Bool}:∀{l:List GMonthBalance}{rem:Int},(l.map (·.Month)).Nodup->((Ho kind d om rem l).1.map (·.Month)).Nodup
 |[],rem,_=>by simp[Ho]
 |b::l,rem,h=>by
  simp only[Gaa,Iab]at h;rw[Ho];by_cases a:0<rem
  case neg=>rw[if_neg a];simp
  rw[if_pos a];by_cases hc:dq b<=0\/om b.Month=true
  .rw[if_pos hc];exact iv h.2
  .rw[if_neg hc];simp only[Gaa,Iab];refine⟨λhm=>?_,iv h.2⟩;obtain⟨q,hq,he⟩:=fab.1 hm;obtain⟨x,hx,e,-⟩:=As hq;exact h.1 (fab.2 ⟨x,hx,by rw[←e,he]⟩)
theorem tw{kind d:Int}{om:Int->Bool}:∀{l:List GMonthBalance}{rem:Int},(Ho kind d om rem l).1.length<=l.length
 |[],rem=>by simp[Ho]
 |b::l,rem=>by
  rw[Ho];by_cases a:0<rem
  case neg=>rw[if_neg a];simp
  rw[if_pos a];by_cases hc:dq b<=0\/om b.Month=true
  .rw[if_pos hc];have:=tw (kind:=kind) (d:=d) (om:=om) (l:=l) (rem:=rem);simp only[uaa];omega
  .rw[if_neg hc];have:=tw (kind:=kind) (d:=d) (om:=om) (l:=l) (rem:=rem-min (dq b) rem);simp only[uaa];omega
theorem fF{to d:Int}{l:List GMonthBalance}{q:GPosting}(h:q∈ct to d l):∃b∈l,q.Month=b.Month/\q.Date=d/\q.Kind=1/\q.Cents=Sv b/\0<Sv b/\b.Month<=to:=by
 obtain⟨b,hb,h⟩:=List.mem_filterMap.1 h;split at h
 .rename_i hc;obtain rfl:=Raa h;exact⟨b,hb,rfl,rfl,rfl,rfl,hc.2,hc.1⟩
 .cases h
theorem iF{to d:Int}:∀{l:List GMonthBalance},(l.map (·.Month)).Nodup->((ct to d l).map (·.Month)).Nodup
 |[],_=>by simp[ct]
 |b::l,h=>by
  simp only[Gaa,Iab]at h;have a:=iF (to:=to) (d:=d) h.2;unfold ct at a⊢;rw[ead];by_cases hc:b.Month<=to/\0<Sv b
  .rw[if_pos hc];simp only[Gaa,Iab];refine⟨λhm=>?_,a⟩;obtain⟨q,hq,he⟩:=fab.1 hm;obtain⟨x,hx,e,-⟩:=fF hq;exact h.1 (fab.2 ⟨x,hx,by rw[←e,he]⟩)
  .rw[if_neg hc];exact a
def upB(m:Int) (a:GAppeal):Bool:=decide (a.State=3/\a.From<=m/\m<a.To)
def wE(A:List GAppeal) (m:Int):Option Int:=(A.reverse.find? (upB m)).map (·.Cents)
theorem WQ{A:List GAppeal}(hl:A.length<=1048576) (m:Int):Gm A m=some (match wE A m with|some c=>(c,true)|none=>(0,false)):=by
 have key:∀k,k<=A.length->ja (sg A m) ((k:Int)-1)=some (match ((A.take k).reverse.find? (upB m)).map (·.Cents)with|some c=>.inr (c,true)|none=>.inl ()):=by
  intro k
  induction k with
  |zero=>
   intro _;refine(Gb (b:=()) ?_).trans rfl;simp[sg]
  |succ k f=>
   intro hk;have a:sg A m (((k+1:Nat):Int)-1)=some (if upB m A[k]=true then .ret (A[k].Cents,true)else .go ((k:Int)-1)):=by
    unfold sg;rw[if_pos (by omega),show((k+1:Nat):Int)-1=((k:Nat):Int) by omega,Pa hk,naa,wid (by omega) (by omega)];unfold upB;by_cases d:A[k].State=3<;>by_cases h2:A[k].From<=m<;>by_cases e:m<A[k].To<;>simp[d,h2,e]
   rw[Td hk,List.reverse_append,List.reverse_singleton,List.singleton_append,List.find?_cons]
   cases hu:upB m A[k]with
   |true=>
    rw[hu,if_pos rfl]at a;rw[aq a];rfl
   |false=>
    rw[hu,if_neg (by simp)]at a;rw[ud a,f (by omega)]
 have:=key A.length (Haa _);rw[yab]at this;unfold Gm;rw[wid (by omega) (by omega),this];unfold wE;cases (A.reverse.find? (upB m)).map (·.Cents)<;>rfl
def EC(A:List GAppeal) (w:GAward):GAward:=match wE A w.Month with|some c=>⟨w.Month,c,0⟩|none=>w
theorem iY{A:List GAppeal}(hl:A.length<=1048576) {l:List GAward}(hn:l.length<=1048576):Sg l A=some (l.map (EC A)):=by
 unfold Sg;have:ja (fi l A) (([]:List GAward),0)=some (.inl (l.map (EC A))):=by
  refine Yg (λi=>((l.take i).map (EC A),(i:Int))) l.length _ (λi hi=>?_) ?_ rfl
  .unfold fi;dsimp only;rw[if_pos (by omega),Pa hi,naa,WQ hl,naa];have a:((l.take i).map (EC A)).length=i:=by rw[lab,vab];omega
   have b:(oaa (α:=Int×Int) (if(match wE A l[i].Month with|some c=>((c,true):Int×Bool)|none=>(0,false)).2=true then some ((match wE A l[i].Month with|some c=>((c,true):Int×Bool)|none=>(0,false)).1,0)else some (l[i].Cents,l[i].Code)) λx=>some (GAward.mk l[i].Month x.1 x.2))=some (EC A l[i]):=by
    unfold EC;cases wE A l[i].Month<;>simp
   rw[Td hi,Zab]
   cases h:wE A l[i].Month with
   |some c=>
    rw[h]at b;simp only[if_true,naa]at b⊢;rw[kj (by rw[a];simp only[uaa,Faa];omega),naa,Ha (by omega),Gaa,xab,Raa b]
   |none=>
    rw[h]at b;simp only[Eaa,if_false,naa]at b⊢;rw[kj (by rw[a];simp only[uaa,Faa];omega),naa,Ha (by omega),Gaa,xab,Raa b]
  .simp[fi]
 rw[this,naa]
noncomputable def Qt(l:GLaw) (c:GPayConfig) (t:GAccount) (to rec:Int):List GMonthBalance:=(zaa (to+1-c.FirstMonth).toNat).map λ(j:Nat)=>Kp t.Postings (EC t.Appeals (JD l t.Household c (c.FirstMonth+j) rec))
theorem Zu{P:List GPosting}{w:GAward}:(Kp P w).Month=w.Month:=rfl
theorem Ly{A:List GAppeal}{w:GAward}:(EC A w).Month=w.Month:=by
 unfold EC;cases wE A w.Month<;>rfl
theorem xJ{l:GLaw}{c:GPayConfig}{t:GAccount}{to rec:Int}:(Qt l c t to rec).map (·.Month)=(zaa (to+1-c.FirstMonth).toNat).map λ(j:Nat)=>c.FirstMonth+(j:Int):=by
 unfold Qt;rw[Wad];refine Qab λj _=>?_;simp only[fae,Zu,Ly,NA]
theorem oC(a:Int) (n:Nat):((zaa n).map λ(j:Nat)=>a+(j:Int)).Nodup:=by
 refine List.pairwise_map.2 ?_;refine Kad ?_ List.pairwise_lt_range;intro i j h;omega
theorem Wu{l:GLaw}(hl:LawOk l) (a:FewR l) {t:GAccount}(d:t.Household.Facts.length<=40) {c:GPayConfig}(hc:c.Calendar.Holidays.length<=1048576) (e:t.Postings.length<=1048576) (ha:t.Appeals.length<=1048576) {to:Int}(hf:0<=c.FirstMonth) (ht:to<c.FirstMonth+120) (rec:Int) :
 Wa l c t to rec=some (if to<c.FirstMonth\/3599<to then []else Qt l c t to rec):=by
 unfold Wa;rw[y6];by_cases h:to<c.FirstMonth\/3599<to
 .rw[decide_eq_true h,if_pos (rfl:true=true),if_pos h]
 rw[decide_eq_false h,if_neg (by simp),if_neg h,wid (by omega) (by omega),oJ hl a d hc (by omega) rec,naa];have hn:(to+1-c.FirstMonth).toNat<=120:=by omega
 rw[if_neg (by simp only[lab,qac];omega),iY ha (by simp only[lab,qac];omega),naa];unfold qm;have b:(((zaa (to+1-c.FirstMonth).toNat).map λ(j:Nat)=>JD l t.Household c (c.FirstMonth+j) rec).map (EC t.Appeals)).map (λw=>w.Month)=(zaa (to+1-c.FirstMonth).toNat).map λ(j:Nat)=>c.FirstMonth+(j:Int):=by
  rw[Wad,Wad];exact Qab λj _=>by simp only[fae,Ly,NA]
 rw[if_pos ⟨by simp only[lab,qac];omega,e,by rw[b];exact oC _ _⟩,naa];simp only[Wad];rfl
theorem Ot{f:GPosting->Int}{m:Int}:∀{l:List GPosting},Fg f m (l.filter λp=>p.Month==m)=Fg f m l
 |[]=>rfl
 |p::l=>by
  rw[cad];by_cases h:p.Month=m
  .simp only[h,beq_self_eq_true,if_true,Fg,Ot (l:=l)]
  .simp only[beq_iff_eq,h,if_false,Fg,Ot (l:=l)];omega
theorem Z4(m:Int) (l:List GPosting):RN m l=SN m l:=by
 unfold RN SN;rw[sae];congr 1;funext s p;by_cases a:p.Kind=4<;>by_cases h2:p.Month=m<;>simp[a,h2]
theorem lY{P:List GPosting}(h:iw P) (w:GAward):(Kp P w).Received=Fg ew w.Month P/\(Kp P w).Waived=Fg UC w.Month P:=by
 have hf:∀p∈P.filter (λp=>p.Month==w.Month),lk p:=λp a=>h.post p (List.mem_filter.1 a).1;have hl:(P.filter λp=>p.Month==w.Month).length<=8200:=Oab (List.length_filter_le _ _) (by have:=h.1;omega);unfold Kp;refine⟨?_,?_⟩
 .show OC w.Month _ [1,2,3]=_;rw[lP,Ww hl hf,Ot]
 .show RN w.Month _=_;rw[Z4,XF hl hf,Ot]
theorem qN{P:List GPosting}(h:iw P) (m:Int):0<=Fg ew m P:=by
 have key:∀k,k<=P.length->0<=Fg ew m (P.take k):=by
  intro k
  induction k with
  |zero=>intro _;exact dad _
  |succ k b=>
   intro hk;by_cases hm:P[k].Month=m
   .have:=(h.2 k hk).2.2;rw[hm,Ww (by rw[vab];have:=h.1;omega) (λp a=>h.post p (Tab a))]at this;exact this
   .rw[Td hk,Ou];simp only[Fg,if_neg hm];have:=b (by omega);omega
 have:=key P.length (Haa _);rwa [yab]at this
theorem cO{c:GPayConfig}{t:GAccount}{m:Int}(h:LD c t m=false):c.FirstMonth<=m/\m<=t.LastMonth/\Xv m t.Postings<=1000000000000000/\SN m t.Postings<=1000000000000000:=by
 unfold LD at h;simp only[decide_eq_false_iff_not,not_or,rae]at h;exact h
theorem mP{l:GLaw}{c:GPayConfig}{t:GAccount}(h:AccOk l c t) (m:Int):Fg ew m t.Postings<=1000000000000000/\Fg UC m t.Postings<=1000000000000000:=by
 by_cases he:∃p∈t.Postings,p.Month=m
 .obtain⟨p,a,rfl⟩:=he;obtain⟨-,-,b,h2⟩:=cO (h.mon p a);have hl:t.Postings.length<=8200:=by have:=h.led.1;omega
  rw[Ww hl h.led.post]at b;rw[XF hl h.led.post]at h2;exact⟨b,h2⟩
 .have hn:∀p∈t.Postings,p.Month≠m:=λp a e=>he ⟨p,a,e⟩;rw[Pu hn,Pu hn];omega
theorem nZ{A:List GAppeal}{m x:Int}(h:wE A m=some x):∃a∈A,a.Cents=x:=by
 unfold wE at h;obtain⟨a,ha,rfl⟩:=Option.map_eq_some_iff.1 h;exact⟨a,by simpa using List.mem_of_find?_eq_some ha,rfl⟩
theorem RP{l:GLaw}(hl:LawOk l) (b:FewR l) {h:GHousehold}(q:h.Facts.length<=40) {c:GPayConfig}(hc:c.Calendar.Holidays.length<=1048576) {m rec:Int}:0<=(JD l h c m rec).Cents/\(JD l h c m rec).Cents<=1000000000000000:=by
 by_cases a:(JD l h c m rec).Code=0
 case neg=>
  have:(JD l h c m rec).Cents=0:=by
   unfold JD at a⊢;split
   .rfl
   .rename_i n;rw[if_neg n]at a;split
    .rfl
    .rename_i h2;rw[if_neg h2]at a;exact eY a
  omega
 obtain⟨f,g,k3⟩:=VS a;obtain⟨v,u,w⟩:=DD hl (λx hx=>Oab (b.s x hx) (by decide)) (h:=h) (by omega) (c:=c) hc;rw[u,Rab]at g;obtain⟨i,H⟩:=w g;have hi:h.Scope.toNat=i:=by have:=H.sc;omega
 rw[hi]at k3;rw[k3]at a⊢;dsimp only at a⊢;obtain⟨c1,-⟩:=rB (l:=l) (h:=h) (rec:=rec) f b q;obtain⟨d2,d3,d4,d5⟩:=TO f;obtain⟨j,k⟩:=B7 a;rw[k];generalize pS l h m rec=P at *;have hds:=(Lp c1).1;have e:∀p∈P,-1000000000000000<=(Dg l i h c.Def rec p.From).1.N/\(Dg l i h c.Def rec p.From).1.N<=1000000000000000:=λp t=>iA H rec p.From (j p t);obtain⟨y,z⟩:=CA (v:=λd=>(Dg l i h c.Def rec d).1.N) c1 e;have o:1<=Hq P/\Hq P<=31:=by omega
 have:=JJ (mode:=c.Rounding) o H.cf.r (by omega) y z;omega
theorem AccOk.gY{l:GLaw}{c:GPayConfig}{t:GAccount}(h:AccOk l c t):∀a∈t.Appeals,jt a:=by
 intro a ha;obtain⟨i,hi,rfl⟩:=Aaa ha;exact(h.app i hi).1
theorem bal_B{l:GLaw}(hl:LawOk l) (d:FewR l) {t:GAccount}(h:t.Household.Facts.length<=40) {c:GPayConfig}(hc:c.Calendar.Holidays.length<=1048576) (ht:AccOk l c t) {to rec:Int}(hf:0<=c.FirstMonth) (hto:to<=3599):∀b∈Qt l c t to rec,BalB b/\b.Received=Fg ew b.Month t.Postings/\b.Waived=Fg UC b.Month t.Postings/\c.FirstMonth<=b.Month/\b.Month<=to:=by
 intro b hb;obtain⟨j,hj,rfl⟩:=fab.1 hb;obtain⟨w,hw⟩:∃w,w=EC t.Appeals (JD l t.Household c (c.FirstMonth+j) rec):=⟨_,rfl⟩;rw[←hw];have hm:w.Month=c.FirstMonth+j:=by rw[hw,Ly,NA]
 have hjl:=List.mem_range.1 hj;obtain⟨e,f⟩:=lY ht.led w;have h1:=qN ht.led w.Month;have h2:=mP ht w.Month;have h3:=Ov (m:=w.Month) ht.led.post;refine⟨⟨?_,by rw[e];omega,by rw[f];omega,by rw[Zu];omega⟩,e,f,by rw[Zu];omega,by rw[Zu];omega⟩;have hd:(Kp t.Postings w).Due=if w.Code=0 then w.Cents else(Kp t.Postings w).Received:=rfl;rw[hd];split
 .rw[hw];unfold EC
  cases g:wE t.Appeals (JD l t.Household c (c.FirstMonth+j) rec).Month with
  |none=>exact RP hl d h hc
  |some x=>
   obtain⟨a,ha,rfl⟩:=nZ g;exact(ht.gY a ha).2.2.2.2.1
 .rw[e];omega
theorem FN{q:List Int}{t:Int}(hl:q.length<=1048576):∃r,Va q t=some r:=by
 unfold Va;obtain⟨b,c,k,rfl,h2⟩:=OO (step:=yb q t) (λs=>∃i j:Nat,s=((i:Int),(j:Int))/\i<=j/\j<=q.length) (λs=>(s.2-s.1).toNat) (λb=>∃k:Nat,b=(k:Int)/\k<=q.length) (by
  rintro s ⟨i,j,rfl,a1,a⟩;unfold yb;dsimp only;by_cases hij:i<j
  .left;rw[if_pos (by omega),mid (by omega),Pa (show(i+j) / 2<q.length by omega),naa,QD,naa];by_cases hx:q[(i+j) / 2]'(by omega)<t
   .exact⟨_,by rw[if_pos (by simp[hx]),Ha (by omega)],⟨(i+j) / 2+1,j,rfl,by omega,a⟩,by simp only;omega⟩
   .exact⟨_,by rw[if_neg (by simp[hx])],⟨i,(i+j) / 2,rfl,by omega,by omega⟩,by simp only;omega⟩
  .right;exact⟨_,by rw[if_neg (by omega)],i,rfl,by omega⟩) q.length (0,(q.length:Int)) (by simp) ⟨0,q.length,rfl,by omega,by omega⟩
 rw[c,naa];dsimp only;unfold oh;by_cases hk:k<q.length
 .rw[if_pos (by omega),Pa hk,naa];by_cases he:q[k]=t<;>simp[he]
 .rw[if_neg (by omega)];simp
theorem jS{c:GCalendar}(hc:c.Holidays.length<=1048576) {d:Int}(hd:0<=d/\d<=109572):∃b,Qn c d=some b:=by
 unfold Qn Mr;rw[cn,naa,decide_eq_true hd,if_neg (by simp),naa];unfold B3;rw[if_neg (by have:=Int.tmod_nonneg 7 hd.1;omega),naa];split
 .exact⟨_,rfl⟩
 .obtain⟨r,hr⟩:=FN (t:=d) hc;rw[hr];exact⟨_,rfl⟩
theorem XO{c:GCalendar}(hc:c.Holidays.length<=1048576) {d0 n0:Int}(hd:0<=d0/\d0<=109573):∃r,Co c d0 n0=some r/\(r.2=0->d0<=r.1/\r.1<=109572):=by
 unfold Co;rcases IE (s:=yp c) (λx=>d0<=x.1/\x.1<=109573) (λx=>(109573-x.1).toNat) (λ_=>True) (λr=>r.2=0->d0<=r.1/\r.1<=109572) (by
  rintro⟨a,b⟩ ⟨e,h2⟩;dsimp only at e h2;unfold yp;dsimp only;by_cases h:a<=109572
  .rw[if_pos h];obtain⟨w,hw⟩:=jS hc (d:=a) ⟨by omega,h⟩;rw[hw,naa]
   cases w with
   |false=>
    refine .inl ⟨_,rfl,?_,?_⟩<;>dsimp only<;>rw[wid (by omega) (by omega)]<;>omega
   |true=>
    rw[if_neg (by simp)];by_cases f:ca .i64 (b-1)=0
    .rw[if_pos f];exact .inr (.inr ⟨_,rfl,λ_=>⟨e,h⟩⟩)
    .rw[if_neg f];refine .inl ⟨_,rfl,?_,?_⟩<;>dsimp only<;>rw[wid (by omega) (by omega)]<;>omega
  .rw[if_neg h];exact .inr (.inl ⟨_,rfl,trivial⟩)) (x:=(d0,n0)) ⟨by simp,hd.2⟩with⟨b,e,-⟩|⟨r,e,h2⟩
 .rw[e];exact⟨(0,6),rfl,λh=>by simp at h⟩
 .rw[e];exact⟨r,rfl,h2⟩
theorem AP(d:Int):Od d=some (decide (0<=d/\d<=109572)):=by
 unfold Od;by_cases h:0<=d<;>simp[h]
theorem HX{c:GCalendar}(hc:c.Holidays.length<=1048576) {d n:Int}(hd:0<=d/\d<=109572):∃r,ir c d n=some r/\(r.2=0->d<=r.1/\r.1<=109572):=by
 obtain⟨v,hv⟩:=aT hc;unfold ir;rw[hv,naa]
 cases v with
 |false=>exact⟨(0,1),by simp,λh=>by simp at h⟩
 |true=>
  rw[if_neg (by simp),AP,naa,decide_eq_true hd,if_pos (rfl:true=true),y6];by_cases hn:n<0\/365<n
  .rw[decide_eq_true hn];exact⟨(0,3),by simp,λh=>by simp at h⟩
  rw[decide_eq_false hn,if_neg (by simp)];by_cases b:n=0
  .rw[if_pos b];unfold Vr;rw[hv,naa,if_neg (by simp),AP,naa,decide_eq_true hd,if_neg (by simp)];obtain⟨r,a,h2⟩:=XO hc (d0:=d) (n0:=1) ⟨hd.1,by omega⟩;rw[a];exact⟨r,rfl,h2⟩
  .rw[if_neg b,wid (by omega) (by omega)];obtain⟨r,a,h2⟩:=XO hc (d0:=d+1) (n0:=n) (by omega);rw[a];exact⟨r,rfl,λh=>by have:=h2 h;omega⟩
theorem oK{c:GCalendar}(hc:c.Holidays.length<=1048576) {d n:Int}(hd:0<=d/\d<=109572):∃r,xj c d n=some r/\d<=r/\r<=109572:=by
 obtain⟨r,b,h2⟩:=HX hc (n:=n) hd;unfold xj;rw[b,naa];by_cases a:r.2=0
 .rw[if_neg (waa.2 a)];exact⟨_,rfl,h2 a⟩
 .rw[if_pos a];exact⟨_,rfl,by omega,by omega⟩
theorem uJ(d:Int):Tg d=some (decide (0<=d/\d<=109572)):=by
 unfold Tg;by_cases h:0<=d<;>simp[h]
theorem Q6{c:GPayConfig}(hc:c.Calendar.Holidays.length<=1048576) (id a b d n:Int):∃r,Dq id a b d n c=some r/\(r.2=0->jt r.1/\r.1.Id=id/\r.1.Filed=d):=by
 unfold Dq;have hj:(oaa (α:=Bool) (if¬id<0 then(Tg d).bind λs=>if s=true then(Tg n).bind λt=>if t=true then(fe a b).bind λu=>some (!u)else some true else some true else some true) λx=>some x)=some (decide (¬(0<=id/\(0<=d/\d<=109572)/\(0<=n/\n<=109572)/\(0<=a/\a<b/\b<=3600/\b-a<=120)))):=by
  rw[uJ,uJ,By];by_cases k:id<0
  .have:¬0<=id:=by omega
   simp[k,this]
  have e:0<=id:=by omega
  by_cases h2:0<=d/\d<=109572<;>by_cases m:0<=n/\n<=109572<;>by_cases p:0<=a/\a<b/\b<=3600/\b-a<=120<;>simp[k,e,h2,m,p]
 rw[show∀o:Option Bool,(oaa o λb=>some b)=o from λo=>by simp]at hj;rw[hj,naa];by_cases h:0<=id/\(0<=d/\d<=109572)/\(0<=n/\n<=109572)/\(0<=a/\a<b/\b<=3600/\b-a<=120)
 case neg=>
  rw[decide_eq_true h,if_pos (rfl:true=true)];exact⟨_,rfl,λh=>by simp at h⟩
 rw[decide_eq_false (waa.2 h),if_neg (by simp)];by_cases i:d<n
 .rw[if_pos i];exact⟨_,rfl,λh=>by simp at h⟩
 rw[if_neg i];obtain⟨v,hv⟩:=aT hc;obtain⟨j,f⟩:∃j,(oaa (Vd c.Calendar) λg=>if g=true then if¬c.AppealDays<0 then some (decide (365<c.AppealDays))else some true else some true)=some j:=by
  rw[hv,naa];split
  .split<;>exact⟨_,rfl⟩
  .exact⟨_,rfl⟩
 rw[f,naa]
 cases j with
 |true=>
  rw[if_pos (rfl:true=true)];exact⟨_,rfl,λh=>by simp at h⟩
 |false=>
  rw[if_neg (by simp)];obtain⟨q,g1,-⟩:=oK hc (n:=c.AppealDays) h.2.2.1;obtain⟨r2,g2,g3⟩:=oK hc (n:=60) h.2.1;rw[g1,naa,g2,naa];by_cases l:q<d
  .rw[if_pos l,naa];exact⟨_,rfl,λ_=>⟨⟨h.1,h.2.2.2,⟨h.2.1.1,dad _,h.2.1.2⟩,by simp,by simp,.inl rfl⟩,rfl,rfl⟩⟩
  .rw[if_neg l,naa];exact⟨_,rfl,λ_=>⟨⟨h.1,h.2.2.2,⟨h.2.1.1,g3⟩,by simp,by simp,.inl rfl⟩,rfl,rfl⟩⟩
theorem LK(a b:Int):∃r,zj a b=some r/\(r=true->2<=b/\b<=5):=by
 unfold zj;by_cases c:a=1<;>by_cases h2:a=2<;>by_cases d:b=2<;>by_cases e:b=4<;>by_cases f:b=3<;>by_cases g:b=5<;>simp[c,h2,d,e,f,g]
theorem OH{a:GAppeal}(ha:jt a) (s c d:Int):∃r,oi a s c d=some r/\(r.2=0->jt r.1/\r.1.Id=a.Id/\r.1.Filed=a.Filed):=by
 unfold oi;obtain⟨p,o,q⟩:=LK a.State s;rw[o,naa]
 cases p with
 |false=>exact⟨_,by rw[if_pos rfl],λh=>by simp at h⟩
 |true=>
  have hs:=q rfl;rw[if_neg (by simp)];by_cases f:d<a.Filed
  .exact⟨_,by rw[if_pos f],λh=>by simp at h⟩
  rw[if_neg f];obtain⟨j,hj⟩:∃j,(if a.Deadline<d then if¬s=2 then some (s==3)else some true else some false)=some j:=by
   split
   .split<;>exact⟨_,rfl⟩
   .exact⟨_,rfl⟩
  rw[hj,naa]
  cases j with
  |true=>exact⟨_,by rw[if_pos rfl],λh=>by simp at h⟩
  |false=>
   rw[if_neg (by simp)];have hk:(if¬c<0 then if¬1000000000000000<c then if¬c=0 then some (s !=3)else some false else some true else some true)=some (decide (¬((0<=c/\c<=1000000000000000)/\(c=0\/s=3)))):=by
    by_cases h2:c<0
    .have:¬0<=c:=by omega
     simp[h2,this]
    have b:0<=c:=by omega
    by_cases g:1000000000000000<c
    .have:¬c<=1000000000000000:=by omega
     simp[h2,g,this]
    have e:c<=1000000000000000:=by omega
    by_cases m:c=0<;>by_cases n:s=3<;>simp[h2,g,b,e,m,n]
   rw[hk,naa];by_cases h:(0<=c/\c<=1000000000000000)/\(c=0\/s=3)
   case neg=>exact⟨_,by rw[decide_eq_true h,if_pos rfl],λh=>by simp at h⟩
   rw[decide_eq_false (waa.2 h),if_neg (by simp)];obtain⟨i,k,l,a4,a5,a6⟩:=ha;exact⟨_,rfl,λ_=>⟨⟨i,k,l,by simp only;omega,h.1,h.2⟩,rfl,rfl⟩⟩
theorem UD{l:GLaw}{sc:Int}{c:GPayConfig}(hv:Ga l sc c=some 0):(0<=c.FirstMonth/\c.FirstMonth<=3599)/\0<=c.RecoveryFloor/\c.RecoveryFloor<=1000000000000000:=by
 unfold Ga at hv;obtain⟨x1,-,hv⟩:=qi hv;split at hv
 .simp at hv
 obtain⟨x2,-,hv⟩:=qi hv;split at hv
 .simp at hv
 obtain⟨x3,-,hv⟩:=qi hv;obtain⟨x4,-,hv⟩:=qi hv;split at hv
 .simp at hv
 obtain⟨x5,-,hv⟩:=qi hv;split at hv
 .simp at hv
 obtain⟨e,a,hv⟩:=qi hv;split at hv
 .simp at hv
 rename_i hx;have hx:e=false:=by simpa using hx
 subst hx;simp only[y6]at a;split at a
 .simp at a
 split at a
 .simp at a
 split at a
 .simp at a
 split at a
 .simp at a
 rename_i a1 a2 b d;simp only[decide_eq_true_eq,not_or,rae]at b d;exact⟨d,b⟩
theorem lim_s{c:GPayConfig}(hc:0<=c.RecoveryFloor/\c.RecoveryFloor<=1000000000000000) {s:Int}(hs:0<=s/\s<=200000000000000000):∃x,fg s c=some x/\0<=x/\x<=200000000000000000:=by
 unfold fg fo;by_cases h:s<1
 .exact⟨0,by rw[if_pos h],by omega,by omega⟩
 rw[if_neg h,Ow];simp only[naa];split
 .exact⟨0,rfl,by omega,by omega⟩
 .rw[wid (by omega) (by omega)];exact⟨_,rfl,by omega,by omega⟩
theorem fL{A:List GAppeal}(hl:A.length<=1048576):∃r,ib A=some r/\r.length<=3600:=by
 unfold ib;have hm:Nw 8 (0:Int) 3601 3601=some (raa 3601 0):=nB (n:=3601) (by omega) (by omega);rw[hm,naa];rcases IE (s:=We A) (λx=>x.1.length=3601/\∃j:Nat,x.2=(j:Int)/\j<=A.length) (λx=>(A.length-x.2).toNat) (λb=>b.length=3601) (λ_=>False) (by
  rintro⟨L,i⟩ ⟨a,j,h2,g⟩;dsimp only at a h2;subst h2;unfold We;dsimp only;by_cases hj:j<A.length
  .rw[if_pos (by omega),Pa hj,naa];obtain⟨b,hb⟩:∃b,(if¬A[j].State=1 then some (A[j].State !=2)else some false)=some b:=by split<;>exact⟨_,rfl⟩
   rw[hb,naa,Ha (by omega)]
   cases b with
   |true=>exact .inl ⟨_,rfl,⟨a,j+1,rfl,hj⟩,by simp only;omega⟩
   |false=>
    rw[if_neg (by simp)];by_cases hf:max A[j].From 0<min A[j].To 3600
    .rw[if_pos hf];have k:idx L (max A[j].From 0)=some (L[(max A[j].From 0).toNat]'(by omega)):=pn (by omega) (by omega);rw[k,naa];have l:∀x,put L (max A[j].From 0) x=some (L.set (max A[j].From 0).toNat x):=λx=>by unfold put;rw[if_pos (by omega)]
     rw[l,naa];have m:∀M:List Int,M.length=3601->∃y,idx M (min A[j].To 3600)=some y:=λM q=>⟨_,pn (by omega) (by omega)⟩;obtain⟨y,t⟩:=m (L.set (max A[j].From 0).toNat (ca .i64 (L[(max A[j].From 0).toNat]'(by omega)+1))) (by rw[iad];exact a);rw[t,naa];have o:∀(M:List Int) x,M.length=3601->put M (min A[j].To 3600) x=some (M.set (min A[j].To 3600).toNat x):=λM x q=>by unfold put;rw[if_pos (by omega)]
     rw[o _ _ (by rw[iad];exact a),naa,naa];exact .inl ⟨_,rfl,⟨by simp only[iad];exact a,j+1,rfl,hj⟩,by simp only;omega⟩
    .rw[if_neg hf,naa];exact .inl ⟨_,rfl,⟨a,j+1,rfl,hj⟩,by simp only;omega⟩
  .rw[if_neg (by omega)];exact .inr (.inl ⟨_,rfl,a⟩)) (x:=(raa 3601 0,0)) ⟨List.length_replicate,0,rfl,Nat.zero_le _⟩with⟨b,c,hb2⟩|⟨_,_,h⟩
 .rw[c,naa];dsimp only;rcases IE (s:=Ve b) (λx=>∃j:Nat,x.2.2=(j:Int)/\j<=3600/\x.1.length<=j) (λx=>(3600-x.2.2).toNat) (λb=>b.length<=3600) (λ_=>False) (by
   rintro⟨M,p,i⟩ ⟨j,a,h2,g⟩;dsimp only at a g;subst a;unfold Ve;dsimp only;by_cases hj:j<3600
   .rw[if_pos (by omega),Pa (by omega),naa,Ha (by omega)];by_cases f:0<ca .i64 (p+b[j])
    .rw[if_pos f,kj (by simp only[uaa,Faa];omega),naa,naa];exact .inl ⟨_,rfl,⟨j+1,rfl,hj,by simp only[Taa,uaa,Faa];omega⟩,by simp only;omega⟩
    .rw[if_neg f,naa];exact .inl ⟨_,rfl,⟨j+1,rfl,hj,by simp only;omega⟩,by simp only;omega⟩
   .rw[if_neg (by omega)];exact .inr (.inl ⟨_,rfl,by omega⟩)) (x:=(([]:List Int),0,0)) ⟨0,rfl,by omega,Haa _⟩with⟨r,d,e⟩|⟨_,_,h⟩
  .rw[d];exact⟨r,rfl,e⟩
  .exact h.elim
 .exact h.elim
theorem B0{S:List Int}(hl:S.length<=1048576):∃a,ja (Qj S) (([]:List (Int×Bool)),0)=some (.inl a)/\∀m,(wy a m).getD false=decide (m∈S):=by
 refine⟨S.foldl (λb m=>CG m true b) [],?_,λm=>?_⟩
 .refine Yg (λi=>((S.take i).foldl (λb m=>CG m true b) [],(i:Int))) S.length _ (λi hi=>?_) ?_ rfl
  .unfold Qj;dsimp only;rw[if_pos (by omega),Pa hi,naa,Ha (by omega),Td hi,Sab];rfl
  .simp[Qj]
 .have key:∀(S:List Int) (b:List (Int×Bool)),(wy (S.foldl (λb m=>CG m true b) b) m).getD false=(decide (m∈S) || (wy b m).getD false):=by
   intro S
   induction S with
   |nil=>simp
   |cons x S c=>
    intro b;rw[gab,c,TE];by_cases h:m=x
    .subst h;simp
    .rw[if_neg h];simp[h]
  rw[key];simp[wy]
def bu(c:GPayConfig) (to d:Int) (S:List Int) (lim:Int) (l:List GMonthBalance):List GPosting:=ct to d l++(Ho 2 d (λm=>decide (m∈S)) lim l).1
theorem B5{c:GPayConfig}(hc:0<=c.RecoveryFloor/\c.RecoveryFloor<=1000000000000000) {l:List GMonthBalance}(hb:∀b∈l,BalB b) (hl:l.length<=120) {S:List Int}(hS:S.length<=1048576) (to d:Int) :
 ∃lim,fg (oy (ct to d l)) c=some lim/\0<=lim/\lim<=200000000000000000/\Vq l to c d S=some (bu c to d S lim l):=by
 have hsum:=jF (to:=to) (d:=d) hb;obtain⟨lim,n,t,u⟩:=lim_s hc (s:=oy (ct to d l)) (by omega);refine⟨lim,n,t,u,?_⟩;unfold Vq;have j:ja (Dm l to d) (([]:List GPosting),0,0)=some (.inl (ct to d l,oy (ct to d l))):=by
  refine Yg (λi=>(ct to d (l.take i),oy (ct to d (l.take i)),(i:Int))) l.length _ (λi hi=>?_) ?_ rfl
  .have a:=hb _ (xaa hi);have e:=jF (to:=to) (d:=d) (l:=l.take i) λb f=>hb b (Tab f);have g:=dF (to:=to) (d:=d) (l:=l.take i);have ha:=D5 a;rw[vab]at e g;unfold Dm;dsimp only;rw[if_pos (by omega),Pa hi,naa,arr_s a,naa,y6,Ha (by omega),Td hi];have r:ct to d (l.take i++[l[i]])=ct to d (l.take i)++if l[i].Month<=to/\0<Sv l[i]then [⟨d,l[i].Month,1,Sv l[i]⟩]else []:=by
    unfold ct;rw[List.filterMap_append];congr 1;by_cases h:l[i].Month<=to/\0<Sv l[i]
    .simp only[ead,if_pos h,kae]
    .simp only[ead,if_neg h,kae]
   rw[r];by_cases h:l[i].Month<=to/\0<Sv l[i]
   .rw[decide_eq_false (by omega),if_neg (by simp),if_pos h,kj (by simp only[uaa,Faa];omega),naa,naa,QW];simp only[oy,Gaa,xab,xad,List.sum_nil];simp only[oy]at e;rw[wid (by omega) (by omega),Int.add_zero]
   .rw[decide_eq_true (by omega),if_pos (rfl:true=true),if_neg h,naa,List.append_nil]
  .simp[Dm]
 obtain⟨q,o,p⟩:=B0 hS;rw[j,naa];dsimp only;unfold vq iq;have k:(λm=>(wy q m).getD false)=λm=>decide (m∈S):=funext p;have hpl:=dF (to:=to) (d:=d) (l:=l);have hdl:=tw (kind:=2) (d:=d) (om:=λm=>decide (m∈S)) (l:=l) (rem:=lim);rw[o,naa];dsimp only;rw[n,naa,tB hb (by simp only[Faa];omega) (by omega),k];simp only[naa,Vaa];rw[kj (by omega)];rfl
theorem YN{l:List GMonthBalance}(hb:∀b∈l,BalB b) (hl:l.length<=120) {cents:Int}(hc:1<=cents/\cents<=1000000000000000) (d:Int):Fm l cents d=some ((Ho 3 d (λ_=>false) cents l).1,(Ho 3 d (λ_=>false) cents l).2):=by
 unfold Fm gp;rw[if_neg (by omega),Vy hb (by simp only[Faa];omega) (by omega)];simp only[naa,Vaa]
theorem Yo{t:GAccount}:oH t=false↔(∀f∈t.Household.Facts,f.Recorded<=t.Date)/\(∀p∈t.Postings,p.Date<=t.Date)/\∀a∈t.Appeals,a.Filed<=t.Date:=by
 unfold oH;simp only[Bool.or_eq_false_iff,List.any_eq_false,decide_eq_true_eq,rae]
theorem Bp.rng{c:GPayConfig}(hc:0<=c.FirstMonth/\c.FirstMonth<=3599) {m:Int}(h:Bp c m):c.FirstMonth<=m/\m<=3599/\m<c.FirstMonth+120:=by
 unfold Bp at h;rw[wid (n:=c.FirstMonth+120) (by omega) (by omega),wid (by omega) (by omega)]at h;omega
theorem tP{f:GPosting->Int}{Q:List GPosting}(hn:(Q.map (·.Month)).Nodup) (m:Int):Fg f m Q=0\/∃q∈Q,q.Month=m/\Fg f m Q=f q:=by
 by_cases h:∃q∈Q,q.Month=m
 .obtain⟨q,hq,rfl⟩:=h;exact .inr ⟨q,hq,rfl,FF hn hq⟩
 .exact .inl (Pu λp a e=>h ⟨p,a,e⟩)
theorem AccOk.addP{l:GLaw}{c:GPayConfig}{t:GAccount}(h:AccOk l c t) {d lm:Int}{Q:List GPosting}(hd:t.Date<=d/\d<=109572) (k:lm=t.LastMonth\/(Bp c lm/\t.LastMonth<=lm)) (hq:∀q∈Q,lk q/\q.Date=d) (hn:(Q.map (·.Month)).Nodup)
 (n:∀q∈Q,0<=Fg ew q.Month t.Postings+ew q/\Fg ew q.Month t.Postings+ew q<=1000000000000000/\Fg UC q.Month t.Postings+UC q<=1000000000000000) (hm:∀q∈Q,c.FirstMonth<=q.Month/\q.Month<=lm) (hl:t.Postings.length+Q.length<=4096) :
 AccOk l c ⟨t.Household,t.Postings++Q,t.Appeals,d,lm⟩:=by
 obtain⟨s,r,u⟩:=Yo.1 h.late;have hd1:=h.date;have b:iw (t.Postings++Q):=addQ h.led (λp g=>by have:=r p g;omega) hq hn (λq m=>(n q m).1) hl;have i:(t.Postings++Q).length<=8200:=by have:=b.1;omega
 refine⟨h.cf,h.hv,by simp only;omega,?_,b,?_,h.GM,h.app,?_⟩
 .rcases k with e|e
  .rw[e];exact h.last
  .exact .inr e.1
 .intro p g;have j:c.FirstMonth<=p.Month/\p.Month<=lm:=by
   rcases bab.1 g with g|g
   .obtain⟨b1,b2,-⟩:=cO (h.mon p g);rcases k with e|e
    .omega
    .omega
   .exact hm p g
  obtain⟨x1,x2⟩:=mP h p.Month;unfold LD;simp only[decide_eq_false_iff_not,not_or,rae];refine⟨j.1,j.2,?_,?_⟩
  .rw[Ww i b.post,Ou];rcases tP (f:=ew) hn p.Month with e|⟨q,q1,o,v⟩
   .omega
   .have:=(n q q1).2.1;rw[o]at this;omega
  .rw[XF i b.post,Ou];rcases tP (f:=UC) hn p.Month with e|⟨q,q1,o,v⟩
   .omega
   .have:=(n q q1).2.2;rw[o]at this;omega
 .refine Yo.2 ⟨λf hf=>?_,λp g=>?_,λa ha=>?_⟩
  .have:=s f hf;simp only;omega
  .simp only;rcases bab.1 g with g|g
   .have:=r p g;omega
   .exact Oae (hq p g).2
  .have:=u a ha;simp only;omega
def yS(b:GMonthBalance) (q:GPosting):Prop:=q.Month=b.Month/\1<=q.Cents/\((q.Kind=1/\q.Cents=Sv b)\/((q.Kind=2\/q.Kind=3)/\q.Cents<=dq b)\/(q.Kind=4/\q.Cents<=dq b))
theorem yS.ok{b:GMonthBalance}(hb:BalB b) {q:GPosting}(h:yS b q) {P:List GPosting}(c:b.Received=Fg ew b.Month P) (h2:b.Waived=Fg UC b.Month P) (hd:0<=q.Date/\q.Date<=109572) :
 lk q/\0<=Fg ew q.Month P+ew q/\Fg ew q.Month P+ew q<=1000000000000000/\Fg UC q.Month P+UC q<=1000000000000000:=by
 obtain⟨b1,b2,b3,b4⟩:=hb;obtain⟨e,e1,a⟩:=h;rw[e,←c,←h2];unfold Sv dq at a;unfold lk;rw[e];rcases a with⟨k,a⟩|⟨k,a⟩|⟨k,a⟩
 .have s1:ew q=q.Cents:=by unfold ew;rw[if_pos k]
  have s2:UC q=0:=by unfold UC;rw[if_neg (by omega)]
  rw[s1,s2];omega
 .have s1:ew q = -q.Cents:=by unfold ew;rw[if_neg (by omega),if_pos k]
  have s2:UC q=0:=by unfold UC;rw[if_neg (by omega)]
  rw[s1,s2];omega
 .have s1:ew q=0:=by unfold ew;rw[if_neg (by omega),if_neg (by omega)]
  have s2:UC q=q.Cents:=by unfold UC;rw[if_pos k]
  rw[s1,s2];omega
structure BalL (c:GPayConfig) (t:GAccount) (to:Int) (l:List GMonthBalance):Prop where
 b:∀b∈l,BalB b/\b.Received=Fg ew b.Month t.Postings/\b.Waived=Fg UC b.Month t.Postings/\c.FirstMonth<=b.Month/\b.Month<=to
 nd:(l.map (·.Month)).Nodup
 len:l.length<=120
theorem AccOk.r7{l:GLaw}{c:GPayConfig}{t:GAccount}(h:AccOk l c t) {d lm:Int}{Q:List GPosting}{B:List GMonthBalance}(j:BalL c t lm B) (hd:t.Date<=d/\d<=109572) (i:lm=t.LastMonth\/(Bp c lm/\t.LastMonth<=lm)) (hq:∀q∈Q,q.Date=d/\∃b∈B,yS b q) (hn:(Q.map (·.Month)).Nodup) (hl:t.Postings.length+Q.length<=4096) :
 AccOk l c ⟨t.Household,t.Postings++Q,t.Appeals,d,lm⟩:=by
 have hd1:=h.date;have key:∀q∈Q,lk q/\0<=Fg ew q.Month t.Postings+ew q/\Fg ew q.Month t.Postings+ew q<=1000000000000000/\Fg UC q.Month t.Postings+UC q<=1000000000000000:=λq a=>by
  obtain⟨e,b,f,g⟩:=hq q a;obtain⟨k,m,k3,-⟩:=j.b b f;exact g.ok k m k3 (by rw[e];omega)
 refine h.addP hd i (λq a=>⟨(key q a).1,(hq q a).1⟩) hn (λq a=>(key q a).2) (λq a=>?_) hl;obtain⟨-,b,f,g⟩:=hq q a;obtain⟨-,-,-,k4,k5⟩:=j.b b f;rw[g.1];exact⟨k4,k5⟩
theorem UM{l:List GMonthBalance}(hn:(l.map (·.Month)).Nodup) {a b:GMonthBalance}(ha:a∈l) (hb:b∈l) (h:a.Month=b.Month):a=b:=by
 obtain⟨i,hi,rfl⟩:=Aaa ha;obtain⟨j,hj,rfl⟩:=Aaa hb;have d:=List.pairwise_iff_getElem.1 hn;rcases Nat.lt_trichotomy i j with c|c|c
 .have:=d i j (by simp[hi]) (by simp[hj]) c;simp only[kac]at this;exact absurd h this
 .subst c;rfl
 .have:=d j i (by simp[hj]) (by simp[hi]) c;simp only[kac]at this;exact absurd h.symm this
theorem sR{c:GPayConfig}{to d lim:Int}{S:List Int}{l:List GMonthBalance}(hb:∀b∈l,BalB b) (hn:(l.map (·.Month)).Nodup):((bu c to d S lim l).map (·.Month)).Nodup:=by
 unfold bu;rw[Zab,List.nodup_append];refine⟨iF hn,iv hn,?_⟩;intro x hx y n e;obtain⟨q,hq,rfl⟩:=fab.1 hx;obtain⟨p,m,rfl⟩:=fab.1 n;obtain⟨b,f,j,-,-,b3,k,-⟩:=fF hq;obtain⟨a,g,h,-,-,a3,i,-⟩:=As m;have:=UM hn f g (by rw[←j,←h,e]);subst this;obtain⟨d1,d2,d3,d4⟩:=hb b f;unfold Sv at k;unfold dq at i;omega
theorem J0{c:GPayConfig}{to d lim:Int}{S:List Int}{l:List GMonthBalance}{q:GPosting}(hq:q∈bu c to d S lim l):q.Date=d/\∃b∈l,yS b q:=by
 rcases bab.1 hq with hq|hq
 .obtain⟨b,a,e,f,g,h,i,-⟩:=fF hq;exact⟨f,b,a,e,by omega,.inl ⟨g,h⟩⟩
 .obtain⟨b,a,e,f,g,h,i,-⟩:=As hq;exact⟨f,b,a,e,h,.inr (.inl ⟨.inl g,i⟩)⟩
theorem Y1{d lim:Int}{l:List GMonthBalance}{q:GPosting}(hq:q∈(Ho 3 d (λ_=>false) lim l).1):q.Date=d/\∃b∈l,yS b q:=by
 obtain⟨b,a,c,e,f,g,h,-⟩:=As hq;exact⟨e,b,a,c,g,.inr (.inl ⟨.inr f,h⟩)⟩
theorem dO{l:GLaw}(hl:LawOk l) (a:FewR l) {t:GAccount}(d:t.Household.Facts.length<=40) {c:GPayConfig}(hc:c.Calendar.Holidays.length<=1048576) (ht:AccOk l c t) {to rec:Int}(hf:0<=c.FirstMonth) (b:to<=3599) (h2:to<c.FirstMonth+120):BalL c t to (Qt l c t to rec):=by
 refine⟨bal_B hl a d hc ht hf b,?_,?_⟩
 .rw[xJ];exact oC _ _
 .unfold Qt;rw[lab,qac];omega
theorem aM{t:GAccount}(h1:t.Household.Facts.length<=1048576) (h2:t.Postings.length<=1048576) (h3:t.Appeals.length<=1048576):Rm t=some (t.Household.Facts,t.Postings,t.Appeals):=by
 unfold Rm Kb ab jb wa Sa Xa;rw[if_pos (by omega),if_pos (by omega),if_pos (by omega)];rfl
def NI(t:GAccount) (d:Int) (F:List GFact) (P:List GPosting) (A:List GAppeal) (m:Int):GAccount:=⟨⟨t.Household.Id,t.Household.Scope,t.Household.Members,F⟩,P,A,d,m⟩
section
variable {l:GLaw} {c:GPayConfig} {t:GAccount} {e:GEvent}
theorem NY(hl:LawOk l) (ht:AccOk l c t) (hd:t.Date<=e.Date/\e.Date<=109572) (h1:t.Household.Facts.length<=1048576):∃F n,Um l t e t.Household.Facts=some (F,n)/\(n=0->F=t.Household.Facts++[e.Fact]/\e.Fact.Recorded=e.Date/\AccOk l c (NI t e.Date F t.Postings t.Appeals t.LastMonth)):=by
 unfold Um;by_cases h:e.Fact.Recorded=e.Date
 case neg=>exact⟨_,_,by rw[if_pos h],λh=>by simp at h⟩
 rw[if_neg (waa.2 h),kj (by simp only[uaa,Faa];omega),naa,bg _ _ hl.ns];refine⟨_,_,rfl,λb=>⟨rfl,h,ht.cf,b,?_,ht.last,ht.led,ht.mon,ht.GM,ht.app,?_⟩⟩
 .have:=ht.date;simp only[NI];omega
 .obtain⟨g,i,j⟩:=Yo.1 ht.late;refine Yo.2 ⟨λf hf=>?_,λp d=>?_,λa ha=>?_⟩
  .simp only[NI]at hf⊢;rcases bab.1 hf with hf|hf
   .have:=g f hf;omega
   .rw[uab.1 hf,h];exact dad _
  .have:=i p d;simp only[NI];omega
  .have:=j a ha;simp only[NI];omega
theorem G5{P Q:List GPosting}(h1:P.length<=1048576) (h2:Q.length<=1048576):Vm P Q=some (if P.length+Q.length<=4096 then(P++Q,0)else(P,4)):=by
 unfold Vm;rw[wid (by omega) (by omega),kj (by omega),naa];by_cases h:P.length+Q.length<=4096
 .rw[if_pos h,if_neg (by omega)]
 .rw[if_neg h,if_pos (by omega)]
theorem book9{P:List GPosting}{x:List GPosting×Int}(h1:P.length<=1048576) (h2:x.1.length<=1048576):Ym P x=some (if P.length+x.1.length<=4096 then(P++x.1,0)else(P,4)):=by
 unfold Ym;rw[wid (by omega) (by omega),kj (by omega),naa];by_cases h:P.length+x.1.length<=4096
 .rw[if_pos h,if_neg (by omega)]
 .rw[if_neg h,if_pos (by omega)]
theorem nK(hc:0<=c.FirstMonth/\c.FirstMonth<=3599) (ht:AccOk l c t):t.LastMonth<=3599/\t.LastMonth<c.FirstMonth+120:=by
 rcases ht.last with h|h
 .omega
 .have:=h.rng hc;omega
theorem F8(hl:LawOk l) (g:FewR l) (hc:c.Calendar.Holidays.length<=1048576) (k:t.Household.Facts.length<=40) (ht:AccOk l c t) (hd:t.Date<=e.Date/\e.Date<=109572):∃P m n,vj l c t e t.Household.Facts t.Postings t.Appeals=some (P,m,n)/\
 (n=0->m=e.Month/\Bp c e.Month/\t.LastMonth<=e.Month/\(∃lim S,ib t.Appeals=some S/\S.length<=3600/\fg (oy (ct e.Month e.Date (Qt l c t e.Month e.Date))) c=some lim/\0<=lim/\P=t.Postings++bu c e.Month e.Date S lim (Qt l c t e.Month e.Date))/\AccOk l c (NI t e.Date t.Household.Facts P t.Appeals e.Month)):=by
 obtain⟨hf,i⟩:=UD ht.cf;have hp4:=ht.led.1;have ha4:=ht.GM;unfold vj;rw[qB,naa];by_cases a:Bp c e.Month
 case neg=>exact⟨_,_,_,by rw[decide_eq_false a,if_pos rfl],λh=>by simp at h⟩
 obtain⟨m1,m2,o⟩:=a.rng hf;rw[decide_eq_true a,if_neg (by simp)];by_cases ho:e.Month<t.LastMonth
 .exact⟨_,_,_,by rw[if_pos ho],λh=>by simp at h⟩
 rw[if_neg ho];have f:=dO hl g k hc ht (to:=e.Month) (rec:=e.Date) hf.1 m2 o;have p:Wa l c (GAccount.mk (GHousehold.mk t.Household.Id t.Household.Scope t.Household.Members t.Household.Facts) t.Postings t.Appeals t.Date t.LastMonth) e.Month e.Date=some (Qt l c t e.Month e.Date):=by
  have:=Wu hl g k hc (t:=t) (by omega) (by omega) (to:=e.Month) hf.1 o e.Date;rw[if_neg (by omega)]at this;exact this
 rw[p,naa];obtain⟨S,s1,s2⟩:=fL (A:=t.Appeals) (by omega);obtain⟨lim,g1,g2,g3,g4⟩:=B5 i (λb hb=>(f.b b hb).1) f.len (S:=S) (by omega) e.Month e.Date;rw[s1,naa,g4,naa];obtain⟨Q,hQ⟩:∃Q,Q=bu c e.Month e.Date S lim (Qt l c t e.Month e.Date):=⟨_,rfl⟩;rw[←hQ];have hQl:Q.length<=240:=by
  have h1:=dF (to:=e.Month) (d:=e.Date) (l:=Qt l c t e.Month e.Date);have h2:=tw (kind:=2) (d:=e.Date) (om:=λm=>decide (m∈S)) (l:=Qt l c t e.Month e.Date) (rem:=lim);have h3:=f.len;rw[hQ,bu,Taa];omega
 rw[G5 (by omega) (by omega),naa];by_cases j:t.Postings.length+Q.length<=4096
 case neg=>exact⟨_,_,_,by rw[if_neg j],λh=>by simp at h⟩
 rw[if_pos j];refine⟨_,_,_,rfl,λ_=>⟨rfl,a,by omega,⟨lim,S,rfl,s2,g1,g2,by rw[hQ]⟩,?_⟩⟩;exact ht.r7 f hd (.inr ⟨a,by omega⟩) (λq hq=>J0 (c:=c) (to:=e.Month) (S:=S) (lim:=lim) (by rw[←hQ];exact hq)) (by rw[hQ];exact sR (λb hb=>(f.b b hb).1) f.nd) j
theorem AccOk.setA(ht:AccOk l c t) {d:Int}(hd:t.Date<=d/\d<=109572) {A:List GAppeal}(b:A.length<=16) (h2:∀i (h:i<A.length),jt A[i]/\A[i].Id=(i:Int)) (e:∀a∈A,a.Filed<=d):AccOk l c (NI t d t.Household.Facts t.Postings A t.LastMonth):=by
 obtain⟨j,k,l3⟩:=Yo.1 ht.late;refine⟨ht.cf,ht.hv,?_,ht.last,ht.led,ht.mon,b,h2,Yo.2 ⟨λf hf=>?_,λp g=>?_,e⟩⟩
 .have:=ht.date;simp only[NI];omega
 .have:=j f hf;simp only[NI];omega
 .have:=k p g;simp only[NI];omega
theorem OQ(hc:c.Calendar.Holidays.length<=1048576) (ht:AccOk l c t) (hd:t.Date<=e.Date/\e.Date<=109572):∃A n,Wm c e t.Appeals=some (A,n)/\(n=0->(∃a,A=t.Appeals++[a])/\AccOk l c (NI t e.Date t.Household.Facts t.Postings A t.LastMonth)):=by
 have ha:=ht.GM;unfold Wm;by_cases h:16<=(t.Appeals.length:Int)
 .exact⟨_,_,by rw[if_pos h],λh=>by simp at h⟩
 rw[if_neg h];obtain⟨r,j,k⟩:=Q6 hc (t.Appeals.length:Int) e.Month e.ToMonth e.Date e.Notice;rw[j,naa];by_cases b:r.2=0
 case neg=>exact⟨_,_,by rw[if_pos b],λh=>absurd h b⟩
 rw[if_neg (waa.2 b),kj (by simp only[uaa,Faa];omega),naa];obtain⟨f,g,k3⟩:=k b;refine⟨_,_,rfl,λ_=>⟨⟨_,rfl⟩,ht.setA hd (by simp only[Taa,uaa,Faa];omega) (λi hi=>?_) λa ha=>?_⟩⟩
 .rw[Taa,uaa,Faa]at hi;rcases Wab i t.Appeals.length with d|d
  .rw[Dac d];exact ht.app i d
  .obtain rfl:i=t.Appeals.length:=by omega
   rw[List.getElem_concat_length rfl];exact⟨f,g⟩
 .rcases bab.1 ha with ha|ha
  .have:=(Yo.1 ht.late).2.2 a ha;omega
  .rw[uab.1 ha,k3];exact dad _
theorem PQ(ht:AccOk l c t) (hd:t.Date<=e.Date/\e.Date<=109572):∃A n,Xm e t.Appeals=some (A,n)/\(n=0->A.length=t.Appeals.length/\t.Appeals≠[]/\AccOk l c (NI t e.Date t.Household.Facts t.Postings A t.LastMonth)):=by
 have ha:=ht.GM;unfold Xm;have hj:(if¬e.Appeal<0 then some (decide ((t.Appeals.length:Int)<=e.Appeal))else some true)=some (decide (e.Appeal<0\/(t.Appeals.length:Int)<=e.Appeal)):=by
  by_cases h:e.Appeal<0<;>simp[h]
 rw[hj,naa];by_cases h:e.Appeal<0\/(t.Appeals.length:Int)<=e.Appeal
 .exact⟨_,_,by rw[decide_eq_true h,if_pos rfl],λh=>by simp at h⟩
 rw[decide_eq_false h,if_neg (by simp)];obtain⟨k,hk⟩:=Int.eq_ofNat_of_zero_le (show 0<=e.Appeal by omega);have b:k<t.Appeals.length:=by omega
 rw[hk,Pa b,naa];obtain⟨r,o,p⟩:=OH (ht.app k b).1 e.State e.Cents e.Date;rw[o,naa];by_cases f:r.2=0
 case neg=>exact⟨_,_,by rw[if_pos f],λh=>absurd h f⟩
 rw[if_neg (waa.2 f),Ty b,naa];obtain⟨j,m,k3⟩:=p f;refine⟨_,_,rfl,λ_=>⟨by simp,λh=>by rw[h]at b;simp at b,ht.setA hd (by simp only[iad];omega) (λi hi=>?_) λa ha=>?_⟩⟩
 .rw[iad]at hi;rw[List.getElem_set];by_cases d:k=i
  .subst d;rw[if_pos rfl];exact⟨j,by rw[m];exact(ht.app k b).2⟩
  .rw[if_neg d];exact ht.app i hi
 .obtain⟨-,-,g⟩:=Yo.1 ht.late;rcases List.mem_or_eq_of_mem_set ha with ha|rfl
  .have:=g a ha;omega
  .rw[k3];have:=g _ (xaa b);omega
theorem sU(hl:LawOk l) (f:FewR l) (hc:c.Calendar.Holidays.length<=1048576) (i:t.Household.Facts.length<=40) (ht:AccOk l c t) (hd:t.Date<=e.Date/\e.Date<=109572):∃P n,Gl l c t e t.Household.Facts t.Postings t.Appeals=some (P,n)/\
 (n=0->(∃Q,P=t.Postings++Q/\(∀q∈Q,q.Kind=3)/\Q.length<=(t.LastMonth+1-c.FirstMonth).toNat)/\AccOk l c (NI t e.Date t.Household.Facts P t.Appeals t.LastMonth)):=by
 obtain⟨hf,hfl⟩:=UD ht.cf;have hp4:=ht.led.1;have ha4:=ht.GM;unfold Gl;rw[y6];by_cases h:e.Cents<1\/1000000000000000<e.Cents
 .exact⟨_,_,by rw[decide_eq_true h,if_pos rfl],λh=>by simp at h⟩
 rw[decide_eq_false h,if_neg (by simp)];obtain⟨m2,j⟩:=nK hf ht;have m:Wa l c (GAccount.mk (GHousehold.mk t.Household.Id t.Household.Scope t.Household.Members t.Household.Facts) t.Postings t.Appeals t.Date t.LastMonth) t.LastMonth e.Date=_:=Wu hl f i hc (t:=t) (by omega) (by omega) (to:=t.LastMonth) hf.1 j e.Date;rw[m,naa];by_cases hm:t.LastMonth<c.FirstMonth\/3599<t.LastMonth
 .rw[if_pos hm,YN (by simp) (by simp) (by omega),naa];refine⟨_,_,by rw[if_pos (by simp only[Ho];omega)],λh=>by simp at h⟩
 rw[if_neg hm];have a:=dO hl f i hc ht (to:=t.LastMonth) (rec:=e.Date) hf.1 m2 j;rw[YN (λb hb=>(a.b b hb).1) a.len (by omega),naa];split
 .exact⟨_,_,rfl,λh=>by simp at h⟩
 have hdl:=tw (kind:=3) (d:=e.Date) (om:=λ_=>false) (l:=Qt l c t t.LastMonth e.Date) (rem:=e.Cents);have hbl:=a.len;rw[book9 (by omega) (by simp only;omega),naa];by_cases g:t.Postings.length+(Ho 3 e.Date (λ_=>false) e.Cents (Qt l c t t.LastMonth e.Date)).1.length<=4096
 case neg=>exact⟨_,_,by rw[if_neg g],λh=>by simp at h⟩
 rw[if_pos g];refine⟨_,_,rfl,λ_=>⟨⟨_,rfl,λq hq=>?_,?_⟩,?_⟩⟩
 .obtain⟨b,-,-,-,k,-⟩:=As hq;exact k
 .have:(Qt l c t t.LastMonth e.Date).length=(t.LastMonth+1-c.FirstMonth).toNat:=by unfold Qt;rw[lab,qac]
  simp only;omega
 .exact ht.r7 a hd (.inl rfl) (λq hq=>Y1 hq) (iv a.nd) g
end
theorem R7{e:GEvent}{P:List GPosting}(h1:P.length<=1048576):Hl e P=some (if P.length+1<=4096 then(P++[⟨e.Date,e.Month,4,e.Cents⟩],0)else(P,4)):=by
 unfold Hl
 first
  |rw[wid (by simp only[uaa,Faa];omega) (by simp only[uaa,Faa];omega),kj (by simp only[uaa,Faa];omega),naa]
  |rw[wid (by omega) (by omega),kj (by simp only[uaa,Faa];omega),naa]
 by_cases h:P.length+1<=4096
 .rw[if_pos h,if_neg (by omega)]
 .rw[if_neg h,if_pos (by omega)]
theorem indexB{l:List GMonthBalance}(hl:l.length<=1048576) (e:GEvent):xa l (λx=>Rb x e)=some (match ff (λi=>if(l[i]?.any λb=>b.Month==e.Month)=true then some (i:Int)else none) l.length with|some v=>v|none=>-1):=by
 unfold xa;have:ja (ob l λx=>Rb x e) 0=some (Ki () (ff (λi=>if(l[i]?.any λb=>b.Month==e.Month)=true then some (i:Int)else none) l.length)):=
  QU (l:=l) (p:=λx=>Rb x e) (λb=>b.Month==e.Month) (λx _=>rfl) (by omega)
 rw[this,naa];cases ff (λi=>if(l[i]?.any λb=>b.Month==e.Month)=true then some (i:Int)else none) l.length<;>rfl
section
variable {l:GLaw} {c:GPayConfig} {t:GAccount} {e:GEvent}
theorem tU(hl:LawOk l) (a:FewR l) (hc:c.Calendar.Holidays.length<=1048576) (p:t.Household.Facts.length<=40) (ht:AccOk l c t) (hd:t.Date<=e.Date/\e.Date<=109572):∃P n,Il l c t e t.Household.Facts t.Postings t.Appeals=some (P,n)/\
 (n=0->(∃q,P=t.Postings++[q]/\q.Kind=4)/\AccOk l c (NI t e.Date t.Household.Facts P t.Appeals t.LastMonth)):=by
 obtain⟨hf,hfl⟩:=UD ht.cf;have hp4:=ht.led.1;have ha4:=ht.GM;unfold Il;rw[y6];by_cases h:e.Cents<1\/1000000000000000<e.Cents
 .exact⟨_,_,by rw[decide_eq_true h,if_pos rfl],λh=>by simp at h⟩
 rw[decide_eq_false h,if_neg (by simp)];obtain⟨m2,r⟩:=nK hf ht;have s:Wa l c (GAccount.mk (GHousehold.mk t.Household.Id t.Household.Scope t.Household.Members t.Household.Facts) t.Postings t.Appeals t.Date t.LastMonth) t.LastMonth e.Date=_:=Wu hl a p hc (t:=t) (by omega) (by omega) (to:=t.LastMonth) hf.1 r e.Date;rw[s,naa];by_cases hm:t.LastMonth<c.FirstMonth\/3599<t.LastMonth
 .rw[if_pos hm,indexB (by simp),naa];exact⟨_,_,by rw[if_pos (by simp[ff])],λh=>by simp at h⟩
 rw[if_neg hm];have g:=dO hl a p hc ht (to:=t.LastMonth) (rec:=e.Date) hf.1 m2 r;generalize hbl:Qt l c t t.LastMonth e.Date=B at g⊢;have hlen:=g.len;rw[indexB (by omega),naa]
 cases k:ff (λi=>if(B[i]?.any λb=>b.Month==e.Month)=true then some (i:Int)else none) B.length with
 |none=>exact⟨_,_,by rw[if_pos (by simp)],λh=>by simp at h⟩
 |some v=>
  obtain⟨i,j,f,-⟩:=Ob.1 k;rw[qaa j]at f;simp only[lad,beq_iff_eq]at f;split at f
  case isFalse=>cases f
  rename_i d;obtain rfl:=Raa f;dsimp only;rw[if_neg (by omega),Pa j,naa];obtain⟨u,k2,k3,k4,k5⟩:=g.b _ (xaa j);rw[JK u,naa];by_cases o:dq B[i]<e.Cents
  .exact⟨_,_,by rw[if_pos o],λh=>by simp at h⟩
  rw[if_neg o,R7 (by omega),naa];by_cases m:t.Postings.length+1<=4096
  case neg=>exact⟨_,_,by rw[if_neg m],λh=>by simp at h⟩
  rw[if_pos m];refine⟨_,_,rfl,λ_=>⟨⟨_,rfl,rfl⟩,?_⟩⟩;refine ht.r7 g hd (.inl rfl) (λq hq=>?_) (by simp) (by simpa using m);obtain rfl:=uab.1 hq;exact⟨rfl,B[i],xaa j,d.symm,by simp only;omega,.inr (.inr ⟨rfl,by simp only;omega⟩)⟩
inductive EvR (l:GLaw) (c:GPayConfig) (t:GAccount) (e:GEvent):List GFact->List GPosting->List GAppeal->Int->Prop
 |fact (hk:e.Kind=1) (hr:e.Fact.Recorded=e.Date):EvR l c t e (t.Household.Facts++[e.Fact]) t.Postings t.Appeals t.LastMonth
 |pay (hk:e.Kind=2) (lim:Int) (S:List Int) (hm:Bp c e.Month/\t.LastMonth<=e.Month) (hS:ib t.Appeals=some S/\S.length<=3600) (hlim:fg (oy (ct e.Month e.Date (Qt l c t e.Month e.Date))) c=some lim/\0<=lim) :
  EvR l c t e t.Household.Facts (t.Postings++bu c e.Month e.Date S lim (Qt l c t e.Month e.Date)) t.Appeals e.Month
 |appeal (hk:e.Kind=3) (a:GAppeal):EvR l c t e t.Household.Facts t.Postings (t.Appeals++[a]) t.LastMonth
 |decide (hk:e.Kind=4) (A:List GAppeal) (hA:A.length=t.Appeals.length/\t.Appeals≠[]):EvR l c t e t.Household.Facts t.Postings A t.LastMonth
 |repay (hk:e.Kind=5) (Q:List GPosting) (hQ:(∀q∈Q,q.Kind=3)/\Q.length<=(t.LastMonth+1-c.FirstMonth).toNat):EvR l c t e t.Household.Facts (t.Postings++Q) t.Appeals t.LastMonth
 |waive (hk:e.Kind=6) (q:GPosting) (hq:q.Kind=4):EvR l c t e t.Household.Facts (t.Postings++[q]) t.Appeals t.LastMonth
theorem JX(hl:LawOk l) (p:FewR l) (hc:c.Calendar.Holidays.length<=1048576) (u:t.Household.Facts.length<=40) (h2:t.Postings.length<=1048576) (y:t.Appeals.length<=1048576) :
 ∃r,Qc l c t e=some r/\((r.2≠0/\r.1=t)\/(r.2=0/\AccOk l c t/\(t.Date<=e.Date/\e.Date<=109572)/\∃F P A m,r.1=NI t e.Date F P A m/\EvR l c t e F P A m/\AccOk l c r.1)):=by
 obtain⟨n,C,D⟩:=nk hl hc (t:=t) (by omega) h2 y;unfold Qc;rw[C,naa];by_cases s:n=0
 case neg=>exact⟨_,by rw[if_pos s],.inl ⟨by simp,rfl⟩⟩
 have ht:=D.1 s;rw[if_neg (waa.2 s),Pz,naa];by_cases hd:0<=e.Date/\e.Date<=109572
 case neg=>exact⟨_,by rw[decide_eq_false hd,if_pos rfl],.inl ⟨by simp,rfl⟩⟩
 rw[decide_eq_true hd,if_neg (by simp)];by_cases ho:e.Date<t.Date
 .exact⟨_,by rw[if_pos ho],.inl ⟨by simp,rfl⟩⟩
 have b:t.Date<=e.Date/\e.Date<=109572:=by omega
 rw[if_neg ho,aM (by omega) h2 y,naa];dsimp only;have fin:∀(o:Option (List GFact×List GPosting×List GAppeal×Int×Int)),(∃F P A m k,o=some (F,P,A,m,k)/\(k=0->EvR l c t e F P A m/\AccOk l c (NI t e.Date F P A m)))->
  ∃r,(oaa o λx=>if¬x.2.2.2.2=0 then some (t,x.2.2.2.2)else some (GAccount.mk (GHousehold.mk t.Household.Id t.Household.Scope t.Household.Members x.1) x.2.1 x.2.2.1 e.Date x.2.2.2.1,0))=some r/\((r.2≠0/\r.1=t)\/(r.2=0/\AccOk l c t/\(t.Date<=e.Date/\e.Date<=109572)/\∃F P A m,r.1=NI t e.Date F P A m/\EvR l c t e F P A m/\AccOk l c r.1)):=by
  rintro o ⟨F,P,A,m,k,rfl,hk⟩;rw[naa];by_cases h:k=0
  .rw[if_neg (waa.2 h)];obtain⟨g1,g2⟩:=hk h;exact⟨_,rfl,.inr ⟨rfl,ht,b,F,P,A,m,rfl,g1,g2⟩⟩
  .rw[if_pos h];exact⟨_,rfl,.inl ⟨h,rfl⟩⟩
 refine fin _ ?_;by_cases v:e.Kind=1
 .rw[if_pos v];obtain⟨F,k,d,f⟩:=NY (e:=e) hl ht b (by omega);rw[d];exact⟨F,_,_,_,k,rfl,λh=>by obtain⟨g,i,j⟩:=f h;exact⟨by rw[g];exact .fact v i,j⟩⟩
 rw[if_neg v];by_cases w:e.Kind=2
 .rw[if_pos w];obtain⟨P,m,k,d,f⟩:=F8 (e:=e) hl p hc u ht b;rw[d];exact⟨_,P,_,m,k,rfl,λh=>by
   obtain⟨g,i,j,⟨lim,S,s1,s2,E,G,H⟩,B⟩:=f h;rw[g];exact⟨by rw[H];exact .pay w lim S ⟨i,j⟩ ⟨s1,s2⟩ ⟨E,G⟩,B⟩⟩
 rw[if_neg w];by_cases k3:e.Kind=3
 .rw[if_pos k3];obtain⟨A,k,d,f⟩:=OQ (e:=e) hc ht b;rw[d];exact⟨_,_,A,_,k,rfl,λh=>by obtain⟨⟨a,g⟩,i⟩:=f h;exact⟨by rw[g];exact .appeal k3 a,i⟩⟩
 rw[if_neg k3];by_cases k4:e.Kind=4
 .rw[if_pos k4];obtain⟨A,k,d,f⟩:=PQ (e:=e) ht b;rw[d];exact⟨_,_,A,_,k,rfl,λh=>by obtain⟨z,g,i⟩:=f h;exact⟨.decide k4 A ⟨z,g⟩,i⟩⟩
 rw[if_neg k4];by_cases k5:e.Kind=5
 .rw[if_pos k5];obtain⟨P,k,d,f⟩:=sU (e:=e) hl p hc u ht b;rw[d];exact⟨_,P,_,_,k,rfl,λh=>by obtain⟨⟨Q,g,i⟩,j⟩:=f h;exact⟨by rw[g];exact .repay k5 Q i,j⟩⟩
 rw[if_neg k5];by_cases k6:e.Kind=6
 .rw[if_pos k6];obtain⟨P,k,d,f⟩:=tU (e:=e) hl p hc u ht b;rw[d];exact⟨_,P,_,_,k,rfl,λh=>by obtain⟨⟨q,g,i⟩,j⟩:=f h;exact⟨by rw[g];exact .waive k6 q i,j⟩⟩
 rw[if_neg k6];exact⟨_,_,_,_,1,rfl,λh=>by simp at h⟩
end
theorem Rs{l:List GPosting}(hl:l.length<=1048576):xl l l=some true:=by
 unfold xl;rw[if_neg (by simp)];have:ja (Sj l l) 0=some (.inl ()):=by
  refine Yg (λi=>(i:Int)) l.length _ (λi hi=>?_) ?_ rfl
  .unfold Sj;rw[if_pos (by omega),naa,decide_eq_true (by omega),if_pos (rfl:true=true),Pa hi,naa,naa,if_neg (by simp),Ha (by omega)]
  .simp[Sj]
 rw[this];rfl
theorem rA{l:List GAppeal}(hl:l.length<=1048576):lp l l=some true:=by
 unfold lp;rw[if_neg (by simp)];have:ja (Yk l l) 0=some (.inl ()):=by
  refine Yg (λi=>(i:Int)) l.length _ (λi hi=>?_) ?_ rfl
  .unfold Yk;rw[if_pos (by omega),naa,decide_eq_true (by omega),if_pos (rfl:true=true),Pa hi,naa,naa,if_neg (by simp),Ha (by omega)]
  .simp[Yk]
 rw[this];rfl
theorem qA{t:GAccount}(a:t.Household.Facts.length<=1048576) (h2:t.Postings.length<=1048576) (b:t.Appeals.length<=1048576):kp t t=some true:=by
 unfold kp np;rw[QC a,Rs h2,rA b];simp
theorem HH(c:GPayConfig) (m:Int):∃b,fk c m=some b:=by
 unfold fk;split
 .split<;>exact⟨_,rfl⟩
 .exact⟨_,rfl⟩
theorem H3{l:GLaw}{c:GPayConfig}{t:GAccount}:∃b,Oq l c t=some b/\(b=true->SmallL l/\c.Calendar.Holidays.length<=70/\t.Household.Facts.length<=40/\t.Postings.length<=200/\t.Appeals.length<=20):=by
 unfold Oq sn Sl sj;obtain⟨b,hb,d⟩:=RC l;rw[hb]
 cases b with
 |false=>exact⟨false,rfl,λh=>by cases h⟩
 |true=>
  by_cases hc:(c.Calendar.Holidays.length:Int)<=70
  case neg=>exact⟨false,by simp[hc],λh=>by cases h⟩
  by_cases a:(t.Household.Facts.length:Int)<=40
  case neg=>exact⟨false,by simp[hc,a],λh=>by cases h⟩
  by_cases e:(t.Postings.length:Int)<=200
  case neg=>exact⟨false,by simp[hc,a,e],λh=>by cases h⟩
  by_cases ha:(t.Appeals.length:Int)<=20
  case neg=>exact⟨false,by simp[hc,a,e,ha],λh=>by cases h⟩
  exact⟨true,by simp[hc,a,e,ha],λ_=>⟨d rfl,by omega,by omega,by omega,by omega⟩⟩
theorem EvR.lens{l:GLaw}{c:GPayConfig}{t:GAccount}{e:GEvent}{F:List GFact}{P:List GPosting}{A:List GAppeal}{m:Int}(h:EvR l c t e F P A m):F.length<=t.Household.Facts.length+1/\A.length<=t.Appeals.length+1:=by
 cases h<;>simp_all
theorem Uu(j:ck=some true) {l:GLaw}(x:LawSz l) (p:BS l) (c:GPayConfig) (t:GAccount) (e:GEvent):Qe l c t e=some true:=by
 unfold Qe;obtain⟨b,hb,k⟩:=H3 (l:=l) (c:=c) (t:=t);rw[hb,j,naa]
 cases b with
 |false=>rfl
 |true=>
  obtain⟨a,hc,hh,hp,ha⟩:=k rfl;have hf:FewR l:=⟨a.nt,a.ns,a.rows x,λs o=>(a.s s o).rules⟩;have hl:=a.ok p;obtain⟨n,B,n2⟩:=nk hl (c:=c) (by omega) (t:=t) (by omega) (by omega) (by omega);obtain⟨v,s1⟩:=HH c e.Month;obtain⟨f,s2⟩:=HH c t.LastMonth;rw[if_pos (rfl:true=true),B,naa,s1,s2];obtain⟨g,w⟩:∃g,(if n=0 then(some v).bind λE=>if E=false then if e.Kind=2 then if¬e.Month<=3599 then(some f).bind λG=>some (!G)else some true else(some f).bind λq=>some (!q)else(some f).bind λu=>some (!u)else some true)=some g:=by
   simp only[naa];split
   .split
    .split
     .split<;>exact⟨_,rfl⟩
     .exact⟨_,rfl⟩
    .exact⟨_,rfl⟩
   .exact⟨_,rfl⟩
  rw[w,naa]
  cases g with
  |true=>rfl
  |false=>
   rw[if_neg (by simp)];obtain⟨r,C,D⟩:=JX (e:=e) hl hf (c:=c) (by omega) (t:=t) (by omega) (by omega) (by omega);rw[C,naa];rcases D with⟨h,d⟩|⟨h,-,-,F,P,A,m,d,h2,i⟩
   .rw[if_pos h,d,qA (by omega) (by omega) (by omega)];rfl
   .obtain⟨l1,l2⟩:=h2.lens;obtain⟨n',y,z⟩:=nk hl (c:=c) (by omega) (t:=r.1) (by rw[d];simp only[NI];omega) (by have:=i.led.1;omega) (by have:=i.GM;omega);rw[if_neg (waa.2 h),y,z.2 i,naa,if_pos (rfl:(0:Int)=0),d,if_pos (show(NI t e.Date F P A m).Date=e.Date from rfl)];rfl
def dJ:GEnv:=⟨0,[⟨3,0,500⟩],[⟨0,0,0⟩],[],[],[]⟩
theorem C6:Zc 0=(⟨0,31⟩,0):=by kernel_rfl
theorem A4:eG [Vj] (-1) 0 0 9=(⟨3,0,500⟩,true):=by
 rcases(aO (l:=[Vj]) (by simp) (-1) 0 0 9).2 with⟨-,e⟩|⟨f,h,e,-⟩
 .have:=e Vj (by simp);exact absurd this (by decide)
 .rw[uab]at h;rw[e,h];rfl
theorem CB:zt pf Mh (ug [Vj]) 0 9=(⟨0,[⟨3,0,500⟩],[]⟩,0):=by
 have hm:Fp (ug [Vj]) 0 9=[]:=by
  unfold Fp;rw[show(min (max (ug [Vj]).Members 0) 8).toNat=0 from rfl];rfl
 grind[zt,Gp,Mh,ug,A4]
theorem gX:il [GNode.mk 7 0] dJ=some (⟨3,0,500⟩,0):=by
 have hw:Wst [GNode.mk 7 0]:=iJ (by kernel_rfl);have hN:∀n∈[GNode.mk 7 0],Bd n:=by simp[Bd]
 have he:EnvOk dJ:=⟨by simp[dJ],by simp[dJ]⟩;have ha:Tl [GNode.mk 7 0] 0=0:=by decide
 rw[(VN hN he hw).1];show some (ZC [GNode.mk 7 0] dJ 0)=_;rw[(yV hw hN he 0 (by decide)).q];unfold MY LA;rw[if_neg (by decide),ha];show some ((Zi ⟨7,0⟩ [] dJ).getD (⟨0,0,0⟩,0))=_;unfold Zi;rw[dH,mn,uy,QS (by simp)];rfl
theorem G4:Bg Mh dJ (-1) 0=some (0,oS):=by
 unfold Bg;rw[Cs (by decide),naa,show zP Mh 0 dJ.Date=([0],[-1],[0]) by kernel_rfl];(try dsimp only);rw[show Nw 1 false (([0]:List Int).length:Int) (([0]:List Int).length:Int)=some [false] by rfl,naa,ud (s':=([true],1)) rfl,Gb (b:=[true]) rfl,naa];(try dsimp only);rw[Lt,naa,show PR [-1] [0] [true]=0 by kernel_rfl];rfl
theorem WR:Ua Mh ⟨0,[⟨3,0,500⟩],[],[],[],[]⟩ (-1) [true]=some (([0],oS),⟨0,[⟨3,0,500⟩],[⟨3,0,500⟩],[],[],[]⟩):=by
 unfold Ua;rw[show Nw 24 (GValue.mk 0 0 0) (Mh.Defs.length:Int) (Mh.Defs.length:Int)=some [⟨0,0,0⟩] by rfl,naa,show Nw 8 (0:Int) (Mh.Defs.length:Int) (Mh.Defs.length:Int)=some [0] by rfl,naa,Po (Ur.s Mh (by simp[pf])).2.1,naa,show au (Jo Mh)=([0],0) by kernel_rfl];rw[ud (s':=([⟨3,0,500⟩],[0],1)) (by
  unfold Ce;(try dsimp only);rw[if_pos (by decide),show idx ([0]:List Int) 0=some 0 by rfl,naa,show idx [true] 0=some true by rfl,naa,if_neg (by decide)];rw[show GEnv.mk 0 [⟨3,0,500⟩] [⟨0,0,0⟩] [] [] []=dJ from rfl,G4,naa,if_neg (by decide),if_neg (by decide),if_neg (by decide),show idx Mh.Rules 0=some yL by rfl,naa,show yL.Value=[GNode.mk 7 0]from rfl,gX];rfl),Gb (b:=([⟨3,0,500⟩],[0])) rfl]
 rfl
theorem C4:Ud pf 0 ⟨0,[⟨3,0,500⟩],[]⟩ 0=some (⟨3,0,500⟩,0,oS):=by
 obtain⟨j,g⟩:=FI (l:=pf) (h:=ug [Vj]) (by rw[NF]);have e:j=0:=by have:=g.sc;grind[ug]
 subst e;have f:(oo pf).Code=0:=by rw[cz]
 have a:=(kO Ur f g (d:=0) (r:=9) (def_:=0) (by grind[pf,CB]) (by simp[pf,Mh])).1;rw[show pf.Scopes[0]=Mh from rfl,CB]at a;have c:∀x∈pf.Scopes,x.Rules.length<=64:=by simp[pf,Mh]
 dsimp only at a;refine(yD Ur (TF f) c (i:=0) (by decide) (d:=0) (by simp[pf,Mh]) a).trans ?_;rw[show VO pf 0 (by decide) 0=⟨Mh,⟨ByteArray.mk #[],0,[],[],[]⟩,[true],[]⟩ by kernel_rfl];unfold Ag;rw[Gb (b:=[]) rfl,naa];(try dsimp only);rw[Gb (b:=([],[])) rfl,naa];(try dsimp only);rw[show Ua Mh ⟨0,[⟨3,0,500⟩],[],[],[],pf.Tables⟩ (-1) [true]=_ from WR];rfl
theorem tin_cd{l:List GFact}(h:l=[]\/l=[Vj]):eQ pf (ug l) 9=[]:=by
 rcases h with rfl|rfl<;>kernel_rfl
theorem B4:JD pf (ug [Vj]) Vi 0 9=⟨0,500,0⟩:=by
 have b:Dg pf 0 (ug [Vj]) 0 9 0=(⟨3,0,500⟩,0):=by
  unfold Dg;rw[show pf.Scopes[0]?=some Mh from rfl];(try dsimp only);rw[CB,if_neg (by decide)];(try dsimp only);rw[show((0:Nat):Int)=0 from rfl,C4];rfl
 have a:pS pf (ug [Vj]) 0 9=[⟨0,31⟩]:=by unfold pS;rw[tin_cd (.inr rfl),C6];rfl
 unfold JD;rw[C6,if_neg (by decide),hX NF,Rab,if_neg (by decide),a];unfold KA Tu;simp only[uaa,Faa,ff,List.getElem?_cons_zero,Gaa,xab];rw[show(ug [Vj]).Scope.toNat=0 from rfl,show Vi.Def=0 from rfl,b];rfl
theorem wP:Qt pf Vi ⟨ug [Vj],[],[],0,-1⟩ 0 9=[Kp [] ⟨0,500,0⟩]:=by
 unfold Qt;rw[show((0:Int)+1-Vi.FirstMonth).toNat=1 from rfl];simp only[List.range_one,Gaa,xab];rw[show Vi.FirstMonth+((0:Nat):Int)=0 from rfl,B4];rfl
theorem D4:mi (ug [Vj])=some ⟨ug [Vj],[],[],0,-1⟩:=by
 unfold mi wa;rw[if_pos (by simp[ug]),naa];(try dsimp only);rw[ud (s':=(0,1)) rfl,Gb (b:=0) rfl];rfl
theorem vP:AccOk pf Vi ⟨ug [Vj],[],[],0,-1⟩:=by
 refine⟨?_,by rw[NF],by simp,.inl rfl,⟨by simp,λi h=>by simp at h⟩,by simp,by simp,λi h=>by simp at h,Yo.2 ⟨by simp[ug,Vj],by simp,by simp⟩⟩;unfold Ga;rw[Ij Ur,cz,zL];rfl
theorem xP:me pf Vi ⟨ug [Vj],[],[],0,-1⟩=some 0:=by
 obtain⟨n,a,b⟩:=nk Ur (c:=Vi) (by simp[Vi]) (t:=⟨ug [Vj],[],[],0,-1⟩) (by simp[ug]) (by simp) (by simp);rw[a,b.2 vP]
theorem F4(x:GFact):Qc pf Vi ⟨ug [Vj],[],[],0,-1⟩ ⟨2,9,0,0,0,0,0,0,x⟩=some (⟨ug [Vj],[⟨9,0,1,500⟩],[],9,0⟩,0):=by
 unfold Qc;rw[xP,naa,if_neg (by simp),Pz,naa,decide_eq_true (by simp),if_neg (by simp),if_neg (by simp),aM (by simp[ug]) (by simp) (by simp),naa];(try dsimp only);rw[if_neg (by simp),if_pos rfl];unfold vj;rw[qB,naa,decide_eq_true (show Bp Vi 0 by decide),if_neg (by simp),if_neg (by simp)];have a:=Wu Ur AL (t:=⟨ug [Vj],[],[],0,-1⟩) (by simp[ug]) (c:=Vi) (by simp[Vi]) (by simp) (by simp) (to:=0) (by simp[Vi]) (by simp[Vi]) 9;rw[if_neg (by simp[Vi]),wP]at a;have d:Wa pf Vi (GAccount.mk (GHousehold.mk 0 0 0 [Vj]) [] [] 0 (-1)) 0 9=_:=a;obtain⟨S,s1,s2⟩:=fL (A:=[]) (by simp);have e:∀b∈[Kp [] (⟨0,500,0⟩:GAward)],BalB b:=by
  have:=dO Ur AL (t:=⟨ug [Vj],[],[],0,-1⟩) (by simp[ug]) (c:=Vi) (by simp[Vi]) vP (to:=0) (rec:=9) (by simp[Vi]) (by simp) (by simp[Vi]);rw[wP]at this;exact λb hb=>(this.b b hb).1
 obtain⟨lim,g1,g2,g3,g4⟩:=B5 (c:=Vi) (by simp[Vi]) e (by simp) (S:=S) (by omega) 0 9;simp only[ug,naa,d,s1,g4];have hQ:bu Vi 0 9 S lim [Kp [] ⟨0,500,0⟩]=[⟨9,0,1,500⟩]:=by
  unfold bu;rw[show ct 0 9 [Kp [] ⟨0,500,0⟩]=[⟨9,0,1,500⟩] by kernel_rfl];unfold Ho;have ho:dq (Kp [] ⟨0,500,0⟩)<=0:=by decide
  split<;>simp[ho,Ho]
 rw[hQ,G5 (by simp) (by simp)];rfl
theorem w4(x:GFact):∃r,Qc pf Vi ⟨ug [Vj],[],[],0,-1⟩ ⟨0,9,0,0,0,0,0,0,x⟩=some (r,1):=by
 unfold Qc;rw[xP,naa,if_neg (by simp),Pz,naa,decide_eq_true (by simp),if_neg (by simp),if_neg (by simp),aM (by simp[ug]) (by simp) (by simp),naa];exact⟨_,rfl⟩
theorem mG:ck=some true:=by
 unfold ck;rw[show Sr [GNode.mk 7 0]=some pf from rfl,naa,show GHousehold.mk 0 0 0 [GFact.mk 0 (-1) 0 (GValue.mk 3 0 500) (GDateRange.mk 0 109573) 0]=ug [Vj]from rfl,D4,naa];obtain⟨r,hr⟩:=w4 (GFact.mk 0 0 0 (GValue.mk 0 0 0) (GDateRange.mk 0 0) 0);rw[show GPayConfig.mk 0 0 1 0 0 0 0 (GCalendar.mk 0 [])=Vi from rfl,F4,naa,hr,naa];(try dsimp only);rw[if_pos rfl,if_pos rfl,if_pos rfl,Rs (by simp)];rfl
end Go.Proofs.Dev
