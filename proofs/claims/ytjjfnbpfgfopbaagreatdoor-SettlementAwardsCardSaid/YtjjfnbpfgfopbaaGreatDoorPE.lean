/-
  The functions as plain partial functions, and plain lemmas about them: no condition.
-/
import Derived.Test.YtjjfnbpfgfopbaaGreatDoorPB
import Derived.Test.YtjjfnbpfgfopbaaGreatDoorPD
import Derived.Test.YtjjfnbpfgfopbaaGreatDoorPC
import Derived.KernelRfl
open Bool renaming false_eq_true->Eaa
open Classical renaming not_not->saa
open Function renaming comp_apply->vae
open Int renaming add_zero->Zac,le_of_eq->daf,le_refl->aad,not_lt->Iae,zero_add->eaf
open List renaming any_eq_true->Rac,append_nil->Taa,eq_nil_of_length_eq_zero->Laa,filterMap_append->iae,filterMap_cons->Nac,filterMap_nil->Bae,filter_cons->Sac,foldl_append->lac,foldl_cons->eab,foldl_filter->Jae,foldl_nil->uac,getElem?_cons_zero->Yaa,getElem?_eq_getElem->naa,getElem_append_left->Jac,getElem_append_right->Pad,getElem_map->aac,getElem_mem->taa,getElem_of_mem->waa,getElem_range->Vac,length_append->Faa,length_cons->qaa,length_filterMap_le->Xab,length_map->Waa,length_nil->Aaa,length_range->wac,length_set->qad,length_take->iab,map_append->uab,map_congr_left->Hab,map_cons->vaa,map_map->jae,map_nil->gab,mem_append->Saa,mem_cons->lab,mem_cons_of_mem->rac,mem_filter->hac,mem_filterMap->iac,mem_map->Paa,mem_of_mem_take->Mab,mem_range->Eac,mem_singleton->oab,nil_append->Qaa,nodup_append->wad,nodup_cons->vab,pairwise_iff_getElem->Iab,range->xaa,range_one->tae,replicate->oaa,sum_append->sad,sum_cons->zab,sum_nil->kae,take_append_getElem->nad,take_length->aab
open List.Pairwise renaming imp->Uad
open List.Sublist renaming nodup->jaf
open Nat renaming le_refl->Haa,le_trans->Qab,lt_or_ge->dac,lt_trichotomy->Yad,zero_le->qab
open Option renaming any_some->uad,bind->laa,bind_some->kaa,getD_some->Nab,toList_none->Fae
open Option.some renaming inj->Iaa,injEq->Vaa
set_option linter.all false
set_option maxRecDepth 10000
set_option maxHeartbeats 1000000
namespace Go.Proofs.Dev
open Go Go.Tm
variable {f:GPosting->Int}{m d r rec n lim:Int}{i:Nat}{p q:GPosting}{α ρ:Type}{a:List GFact}{A:List GAppeal}{P:List GPosting}{w:GAward}{h:GHousehold}{S:List Int}{B:List GMonthBalance}{t':GAccount}{es:List GEvent}
theorem pE{l:List GFact}(hl:l.length<=1048576):ru l l=some true:=by
 unfold ru;rw[if_neg (by simp)];have e:ea (Sl l l) 0=some (.inl ()):=Od (step:=Sl l l) (λi=>(i:Int)) l.length () (λi hi=>by
  unfold Sl;simp only[show(i:Int)<(l.length:Int) by omega,if_true,decide_true,kaa,Ea hi]
  grind[va]) (by grind[Sl]) rfl
 simp_all
theorem w9{l:List GFact}(h:FactsOk l) {f g:GFact}(hf:f∈l) (b:g∈l) (he:f.Id=g.Id):f=g:=by
 obtain⟨i,hi,rfl⟩:=waa hf;obtain⟨j,hj,rfl⟩:=waa b;rcases Yad i j with a|a|a
 .exact absurd he (h.id i j hi hj a)
 .simp_all
 .exact absurd he.symm (h.id j i hj hi a)
theorem ZX{l l':List GFact}(h:FactsOk l) (c:l'.length<=1048576) (hm:∀f,f∈l↔f∈l') {i d':Int}(hh:∀f∈l,px m i d r f=px m i d' r f):lC l m i d r=lC l' m i d' r:=by
 have hlen:=h.len;rcases(lF (l:=l) (by omega) m i d r).2 with⟨e,n⟩|⟨f,f1,f2,f3,f4⟩<;>rcases(lF c m i d' r).2 with⟨e',n'⟩|⟨g,a,f2',f3',b⟩
 .rw[e,e']
 .simp_all
 .simp_all
 .have j:=f4 g ((hm _).2 a) (by simp_all);have h2:=b f ((hm _).1 f1) (by simp_all);have:f=g:=w9 h f1 ((hm _).2 a) (by unfold below at j h2;omega)
  simp_all
theorem FN:∀{a b:List Int},a.Pairwise (·<·)->b.Pairwise (·<·)->(∀x,x∈a↔x∈b)->a=b
 |[],[],_,_,_=>rfl
 |[],y::b,_,_,h=>by have:=(h y).2 (by simp);simp_all
 |x::a,[],_,_,h=>by have:=(h x).1 (by simp);simp_all
 |x::a,y::b,ha,hb,h=>by
  rw[List.pairwise_cons]at ha hb;have c:x=y:=by
   rcases lab.1 ((h x).1 (by simp))with e|e
   .exact e
   .rcases lab.1 ((h y).2 (by simp))with e2|e2
    all_goals grind
  subst c;rw[FN ha.2 hb.2 λz=>?_]
  grind
theorem Q0{l:List GDateRange}{x:Int}:x∈ends l↔∃r∈l,neB r=true/\(x=r.From\/x=r.To):=by
 induction l with
 |nil=>simp[ends]
 |cons r l ih=>
  simp_all[ends]
theorem wrap_i64(n:Int):aa .i64 n=(n+9223372036854775808) % 18446744073709551616-9223372036854775808:=by
 show VD n 9223372036854775808 18446744073709551616=_;unfold VD
 grind
theorem wrap_add(a b:Int):aa .i64 (aa .i64 a+b)=aa .i64 (a+b):=by
 grind[wrap_i64]
def qI(p:GPosting):Int:=if p.Kind=1 then p.Cents else if p.Kind=2\/p.Kind=3 then aa .i64 (-p.Cents)else 0
theorem kE(p:GPosting):Io p=some (qI p):=by
 grind[Io,qI]
def tx(m:Int) (l:List GPosting):Int:=l.foldl (λs p=>if p.Month=m then aa .i64 (s+qI p)else s) 0
def aR(m:Int) (l:List GPosting):Int:=l.foldl (λs p=>if p.Month=m/\p.Kind=4 then aa .i64 (s+p.Cents)else s) 0
theorem Qy{α:Type}(c:α->Bool) (v:α->Int):∀(l:List α) (s:Int),l.foldl (λs p=>if c p=true then aa .i64 (s+v p)else s) (aa .i64 s)=aa .i64 (s+(l.map λp=>if c p=true then v p else 0).sum)
 |[],s=>by simp
 |p::l,s=>by
  simp only[eab,vaa,zab];by_cases h:c p=true
  .simp only[h,if_true];rw[wrap_add,Qy c v l]
   grind
  .simp only[h,if_false,Eaa];rw[Qy c v l];simp
theorem oR(p:GPosting):Lx p=qI p:=by
 grind[Lx,qI]
theorem UN(m:Int):∀l:List GPosting,((l.filter λp=>p.Kind==1).map λp=>if(p.Month==m)=true then Lx p else 0).sum+((l.filter λp=>p.Kind==2).map λp=>if(p.Month==m)=true then Lx p else 0).sum+((l.filter λp=>p.Kind==3).map λp=>if(p.Month==m)=true then Lx p else 0).sum=(l.map λp=>if(p.Month==m)=true then qI p else 0).sum
 |[]=>rfl
 |p::l=>by
  have d:=UN m l;have h0:¬p.Kind=1->¬p.Kind=2->¬p.Kind=3->qI p=0:=λa b c=>by simp_all[qI]
  simp only[Sac,vaa,zab,beq_iff_eq,oR]at d⊢
  grind
theorem w0:aa .i64 0=0:=by decide
theorem PK(m:Int) (l:List GPosting):oE m l [1,2,3]=tx m l:=by
 have a:tx m l=aa .i64 (0+(l.map λp=>if(p.Month==m)=true then qI p else 0).sum):=by
  rw[←Qy (λp=>p.Month==m) qI l 0,w0]
  simp_all[tx]
 unfold oE;simp only[eab,uac];have e:∀k s,(l.filter λp=>p.Kind==k).foldl (λs p=>if(p.Month==m)=true then aa .i64 (s+Lx p)else s) (aa .i64 s)=_:=λk s=>Qy (λp:GPosting=>p.Month==m) Lx _ s;rw[←w0,e,e,e,a,←UN m l];simp
theorem iB{l:List GPosting}(hl:l.length<=1048576) (m:Int):fb l m=some (tx m l):=by
 unfold fb;rw[if_pos (by omega),PK]
theorem jE{l:List GPosting}(hl:l.length<=1048576) (m:Int):xh l m=some (aR m l):=by
 unfold xh;rw[if_pos (by omega),Jae]
 grind[aR]
theorem AG{β:Type}{k:Int}{x:β}{q:Int}:∀{l:List (Int×β)},Hz (jI k x l) q=if q=k then some x else Hz l q
 |[]=>rfl
 |(a,b)::l=>by
  unfold jI;split
  .grind[Hz]
  .rename_i h;simp only[Hz,AG (l:=l)]
   grind
theorem pW{l:List GPosting}:tx m (l++[p])=if p.Month=m then aa .i64 (tx m l+qI p)else tx m l:=by
 grind[tx]
theorem ffc{l:List α}{q:α->Bool}{v:ρ}:ff (λi=>if(l[i]?.any q)=true then some v else none) l.length=if l.any q=true then some v else none:=by
 have h:=vK (l:=l) (q:=q) (g:=λ_=>v)
 cases hf:ff (λi=>if(l[i]?.any q)=true then some v else none) l.length with
 |none=>
  simp_all
 |some w=>
  rw[hf]at h;rw[if_pos (show l.any q=true from h.symm)]
  grind[vb]
theorem Py{l:List α}(hl:l.length<=1048576) (q:α->Bool) (v:ρ) {step:Int->Option (Ex Int Unit ρ)}
 (hs:∀i (h:i<l.length),step (i:Int)=some (if q l[i]=true then .ret v else .go (aa .i64 ((i:Int)+1)))) (he:step (l.length:Int)=some (.brk ())) :
 ea step 0=some (if l.any q=true then .inr v else .inl ()):=by
 have:ea step 0=some (fi () (ff (λi=>if(l[i]?.any q)=true then some v else none) l.length)):=
  kh (λi=>(i:Int)) _ l.length () (λi hi _=>by
   grind[zE,va]) (λ_=>he)
 rw[this,ffc];by_cases h:l.any q=true
 .rw[if_pos h,if_pos h];rfl
 .rw[if_neg h,if_neg h];rfl
def oF(c:GPayConfig) (t:GAccount) (m:Int):Bool:=decide (m<c.FirstMonth\/t.LastMonth<m\/1000000000000000<tx m t.Postings\/1000000000000000<aR m t.Postings)
theorem Z0{l:List GPosting}(hl:l.length<=1048576):wh l=some (wg (l.map (·.Month))):=by
 unfold wh;have:ea (Qe l) (([]:List Int),0)=some (.inl (l.map (·.Month))):=by
  refine Od (λi=>((l.take i).map (·.Month),(i:Int))) l.length _ (λi hi=>?_) ?_ rfl
  .have h2:(l.take i).length<=l.length:=by grind
   unfold Qe;dsimp only;rw[if_pos (by omega),Ea hi,kaa,Kh (by grind),kaa,va (by omega),Bc hi]
   grind
  simp_all[Qe]
 grind[oT]
theorem xN{c:GPayConfig}{t:GAccount}(hl:t.Postings.length<=1048576) {L:List Int}(a:L.length<=1048576):ea (Yg c t L) 0=some (if L.any (oF c t)=true then .inr 3 else .inl ()):=by
 refine Py a _ _ (λi hi=>?_) ?_
 .unfold Yg;rw[if_pos (by omega),Ea hi];simp only[kaa,iB hl,jE hl]
  grind[oF]
 simp_all[Yg]
theorem WO{c:GPayConfig}{t:GAccount}:(wg (t.Postings.map (·.Month))).any (oF c t)=t.Postings.any λp=>oF c t p.Month:=by
 rw[Bool.eq_iff_iff,Rac,Rac];constructor
 .rintro⟨m,hm,hb⟩;obtain⟨p,a,rfl⟩:=Paa.1 (((Ig _).2.2 _).1 hm)
  grind
 .rintro⟨p,a,hb⟩;exact⟨p.Month,((Ig _).2.2 _).2 (Paa.2 ⟨p,a,rfl⟩),hb⟩
def cJ(t:GAccount):Bool:=(t.Household.Facts.any λf=>decide (t.Date<f.Recorded)) || ((t.Postings.any λp=>decide (t.Date<p.Date)) || t.Appeals.any λa=>decide (t.Date<a.Filed))
theorem OZ{t:GAccount}(a:t.Household.Facts.length<=1048576) (h2:t.Postings.length<=1048576) (b:t.Appeals.length<=1048576):Pm t=some (!cJ t):=by
 unfold Pm cJ;rw[Py a (λf=>decide (t.Date<f.Recorded)) false (λi hi=>by
  unfold rm;rw[if_pos (by omega),Ea hi,kaa]
  grind) (by grind[rm])]
 rw[Py h2 (λf=>decide (t.Date<f.Date)) false (λi hi=>by
  unfold qm;rw[if_pos (by omega),Ea hi,kaa]
  grind) (by grind[qm])]
 rw[Py b (λf=>decide (t.Date<f.Filed)) false (λi hi=>by
  unfold km;rw[if_pos (by omega),Ea hi,kaa]
  grind) (by grind[km])]
 grind
def Nk(p:GPosting):Prop:=(0<=p.Date/\p.Date<=109572)/\(0<=p.Month/\p.Month<=3599)/\(1<=p.Cents/\p.Cents<=1000000000000000)/\1<=p.Kind/\p.Kind<=4
instance (p:GPosting):Decidable (Nk p):=by unfold Nk;infer_instance
def Hu(l:List GPosting):Prop:=l.length<=4096/\∀i (h:i<l.length),Nk l[i]/\(∀_:0<i,l[i-1].Date<=l[i].Date)/\0<=tx l[i].Month (l.take (i+1))
def dI(l:List GPosting):List (Int×Int):=l.foldl (λm p=>jI p.Month (aa .i64 ((Hz m p.Month).getD 0+qI p)) m) []
theorem fJ{l:List GPosting}:dI (l++[p])=jI p.Month (aa .i64 ((Hz (dI l) p.Month).getD 0+qI p)) (dI l):=by simp[dI]
theorem L0(l:List GPosting) (q:Int):(Hz (dI l) q).getD 0=tx q l:=by
 have key:∀i,i<=l.length->∀q,(Hz (dI (l.take i)) q).getD 0=tx q (l.take i):=by
  intro i
  induction i with
  |zero=>intro _ q;rfl
  |succ i a=>
   intro hi q;rw[Bc hi,fJ,AG,pW];by_cases h:q=l[i].Month
   .subst h;simp only[if_true,Nab,a (by omega)]
   .rw[if_neg h,if_neg λe=>h e.symm,a (by omega)]
 have:=key l.length (Haa _) q;rwa [aab]at this
def WH(l:List GPosting) (i:Nat):Option (Int×Int):=
 match l[i]? with
 |none=>none
 |some p=>if p.Date<0\/109572<p.Date\/p.Month<0\/3599<p.Month\/p.Cents<1\/1000000000000000<p.Cents then some ((i:Int),3)else if p.Kind<1\/4<p.Kind then some ((i:Int),1)
  else if 0<i/\((l[i-1]?).any λq=>decide (p.Date<q.Date))=true then some ((i:Int),9)else if tx p.Month (l.take (i+1))<0 then some ((i:Int),13)else none
theorem jB(l:List GPosting):Kl l=some (if 4096<(l.length:Int)then(4096,4)else(ff (WH l) l.length).getD (0,0)):=by
 unfold Kl;by_cases hl:4096<(l.length:Int)
 .simp_all
 rw[if_neg hl,if_neg hl];have:ea (ai l) (([]:List (Int×Int)),0)=some (fi () (ff (WH l) l.length)):=by
  refine kh (λi=>(dI (l.take i),(i:Int))) _ l.length () (λj hj _=>?_) (λ_=>?_)
  .unfold ai;dsimp only;rw[if_pos (by omega),Ea hj,kaa];have c:(laa (α:=Bool) (laa (α:=Bool) (if¬l[j].Date<0 then some (decide (109572<l[j].Date))else some true) λf=>if f=true then some true else laa (α:=Bool) (if¬l[j].Month<0 then some (decide (3599<l[j].Month))else some true) λd=>if d=true then some true else if¬l[j].Cents<1 then some (decide (1000000000000000<l[j].Cents))else some true) λb=>some b)=some (decide (l[j].Date<0\/109572<l[j].Date\/l[j].Month<0\/3599<l[j].Month\/l[j].Cents<1\/1000000000000000<l[j].Cents)):=by
    grind
   have bi:∀o:Option Bool,(laa o λb=>some b)=o:=λo=>by simp
   rw[bi]at c;rw[c];unfold WH;rw[naa hj];dsimp only;simp only[kaa];by_cases g:l[j].Date<0\/109572<l[j].Date\/l[j].Month<0\/3599<l[j].Month\/l[j].Cents<1\/1000000000000000<l[j].Cents
   .rw[decide_eq_true g,if_pos (rfl:true=true),if_pos g,lS]
   rw[decide_eq_false g,if_neg (by simp),if_neg g];rw[orQ];by_cases g2:l[j].Kind<1\/4<l[j].Kind
   .rw[decide_eq_true g2,if_pos (rfl:true=true),if_pos g2,lS]
   rw[decide_eq_false g2,if_neg (by simp),if_neg g2];have ho:(if(0:Int)<(j:Int)then(idx l (aa .i64 ((j:Int)-1))).bind λe=>some (decide (l[j].Date<e.Date))else some false)=some (decide (0<j/\((l[j-1]?).any λq=>decide (l[j].Date<q.Date))=true)):=by
    by_cases a:0<j
    .rw[if_pos (by omega),wid (by omega) (by omega),show((j:Int)-1)=((j-1:Nat):Int) by omega,Ea (by omega),naa (by omega)];simp[a]
    .simp[a]
   rw[ho,kaa];by_cases g3:0<j/\((l[j-1]?).any λq=>decide (l[j].Date<q.Date))=true
   .rw[decide_eq_true g3,if_pos (rfl:true=true),if_pos g3,lS]
   rw[decide_eq_false g3,if_neg (by simp),if_neg g3];have hm:jI l[j].Month (aa .i64 ((Hz (dI (l.take j)) l[j].Month).getD 0+qI l[j])) (dI (l.take j))=dI (l.take (j+1)):=by rw[Bc hj,fJ]
   rw[kE,kaa,hm,L0,va (by omega)];by_cases a:tx l[j].Month (l.take (j+1))<0
   .rw[if_pos a,if_pos a,lS]
   .rw[if_neg a,if_neg a,goR_n]
  .simp_all[ai]
 rw[this,kaa];cases ff (WH l) l.length<;>rfl
theorem PI{l:List GPosting}(h:i<l.length):WH l i=none↔Nk l[i]/\(∀_:0<i,l[i-1].Date<=l[i].Date)/\0<=tx l[i].Month (l.take (i+1)):=by
 unfold WH Nk;rw[naa h,naa (show i-1<l.length by omega)];dsimp only;by_cases b:l[i].Date<0\/109572<l[i].Date\/l[i].Month<0\/3599<l[i].Month\/l[i].Cents<1\/1000000000000000<l[i].Cents
 .rw[if_pos b];simp;omega
 rw[if_neg b];by_cases h2:l[i].Kind<1\/4<l[i].Kind
 .rw[if_pos h2];simp;omega
 rw[if_neg h2];by_cases a:0<i/\((some l[i-1]).any λq=>decide (l[i].Date<q.Date))=true
 .rw[if_pos a];simp only[uad,decide_eq_true_eq]at a;simp only[reduceCtorEq,false_iff];intro ⟨_,h,_⟩;have:=h a.1;omega
 rw[if_neg a];simp only[uad,decide_eq_true_eq,not_and]at a;by_cases c:tx l[i].Month (l.take (i+1))<0
 .rw[if_pos c];simp;omega
 .rw[if_neg c];simp only[true_iff];exact⟨by omega,λhi=>by have:=a hi;omega,by omega⟩
theorem X8{l:List GPosting}{v:Int×Int}(h:WH l i=some v):v.2≠0:=by
 unfold WH at h
 grind
theorem IC{l:List GPosting}:(if 4096<(l.length:Int)then((4096,4):Int×Int)else(ff (WH l) l.length).getD (0,0)).2=0↔Hu l:=by
 unfold Hu;by_cases hl:4096<(l.length:Int)
 .rw[if_pos hl];simp;omega
 rw[if_neg hl]
 cases h:ff (WH l) l.length with
 |none=>
  simp only[Option.getD_none,true_iff];exact⟨by omega,λi hi=>(PI hi).1 (sb.1 h i hi)⟩
 |some v=>
  simp only[Nab];obtain⟨i,b,h2,-⟩:=vb.1 h;constructor
  .intro a;exact absurd a (X8 h2)
  .intro ⟨_,a⟩;rw[(PI b).2 (a i b)]at h2;cases h2
def uq(p:GPosting):Int:=if p.Kind=1 then p.Cents else if p.Kind=2\/p.Kind=3 then -p.Cents else 0
def Bz(p:GPosting):Int:=if p.Kind=4 then p.Cents else 0
def pc(f:GPosting->Int) (m:Int):List GPosting->Int
 |[]=>0
 |p::l=>(if p.Month=m then f p else 0)+pc f m l
theorem vn{f:GPosting->Int}{m:Int}:∀{a b:List GPosting},pc f m (a++b)=pc f m a+pc f m b
 |[],b=>by simp[pc]
 |p::a,b=>by simp only[List.cons_append,pc,vn (a:=a)];omega
theorem nr{f:GPosting->Int}{m:Int}:∀{l:List GPosting},(∀p∈l,p.Month≠m)->pc f m l=0
 |[],_=>rfl
 |p::l,h=>by
  rw[pc,if_neg (h p (by simp)),nr λq hq=>h q (by simp[hq])];rfl
theorem gw{f:GPosting->Int}:∀{l:List GPosting}{q:GPosting},(l.map (·.Month)).Nodup->q∈l->pc f q.Month l=f q
 |p::l,q,hn,hq=>by
  simp only[vaa,vab]at hn;rcases lab.1 hq with rfl|hq
  .rw[pc,if_pos rfl,nr λx hx he=>hn.1 (Paa.2 ⟨x,hx,he⟩)];omega
  .rw[pc,if_neg (λhe=>hn.1 (Paa.2 ⟨q,hq,he.symm⟩)),gw hn.2 hq];omega
theorem BW(h:Nk p):-1000000000000000<=uq p/\uq p<=1000000000000000:=by
 obtain⟨-,-,h,-⟩:=h;unfold uq;split
 .omega
 .split<;>omega
theorem DJ(h:Nk p):0<=Bz p/\Bz p<=1000000000000000:=by
 obtain⟨-,-,h,-⟩:=h;unfold Bz;split<;>omega
theorem kH{f:GPosting->Int}{m:Int}:∀{l:List GPosting},(∀p∈l,-1000000000000000<=f p/\f p<=1000000000000000)->-1000000000000000*(l.length:Int)<=pc f m l/\pc f m l<=1000000000000000*(l.length:Int)
 |[],_=>by simp[pc]
 |p::l,h=>by
  have ih:=kH (m:=m) λq hq=>h q (rac _ hq);have hp:=h p (by simp);rw[pc,qaa];split<;>omega
theorem sgP_Z(h:Nk p):qI p=uq p:=by
 obtain⟨-,-,h,-⟩:=h;unfold qI uq;rw[wid (by omega) (by omega)]
theorem GM(c:GPosting->Prop) [DecidablePred c] (v f:GPosting->Int) (m:Int):∀(l:List GPosting),(l.length<=8200)->(∀p∈l,-1000000000000000<=f p/\f p<=1000000000000000)->(∀p∈l,(if c p then v p else 0)=if p.Month=m then f p else 0)->
 l.foldl (λs p=>if c p then aa .i64 (s+v p)else s) 0=pc f m l:=by
 intro l hl hb hc;have key:∀i,i<=l.length->(l.take i).foldl (λs p=>if c p then aa .i64 (s+v p)else s) 0=pc f m (l.take i):=by
  intro i
  induction i with
  |zero=>intro _;rfl
  |succ i g=>
   intro hi;have b:l[i]∈l:=taa hi;have e:=kH (m:=m) (l:=l.take i) λq hq=>hb q (Mab hq);have d:(l.take i).length=i:=by rw[iab];omega
   rw[d]at e;have hbi:=hb _ b;have a:=hc _ b;rw[Bc hi,lac,g (by omega),vn];simp only[eab,uac,pc];rw[←a];by_cases h:c l[i]
   .rw[if_pos h]at a;rw[if_pos h,if_pos h,wid (by split at a<;>omega) (by split at a<;>omega)];omega
   .rw[if_neg h,if_neg h];omega
 have:=key l.length (Haa _);rwa [aab]at this
theorem cw{l:List GPosting}(hl:l.length<=8200) (a:∀p∈l,Nk p) (m:Int):tx m l=pc uq m l:=
 GM (λp=>p.Month=m) qI uq m l hl (λp h=>BW (a p h)) λp h=>by rw[sgP_Z (a p h)]
theorem AH{l:List GPosting}(hl:l.length<=8200) (b:∀p∈l,Nk p) (m:Int):aR m l=pc Bz m l:=
 GM (λp=>p.Month=m/\p.Kind=4) (·.Cents) Bz m l hl (λp h=>by have:=DJ (b p h);omega) λp h=>by
  unfold Bz;by_cases a:p.Month=m<;>by_cases h2:p.Kind=4<;>simp[a,h2]
theorem Hu.post{l:List GPosting}(h:Hu l):∀p∈l,Nk p:=by
 intro p a;obtain⟨i,hi,rfl⟩:=waa a;exact(h.2 i hi).1
theorem ax{m:Int}:∀{l:List GPosting},(∀p∈l,Nk p)->0<=pc Bz m l
 |[],_=>aad _
 |p::l,h=>by
  have ih:=ax (m:=m) λq hq=>h q (rac _ hq);have:=DJ (h p (by simp));rw[pc];split<;>omega
theorem YN{a b:List α}(h:i<=a.length):(a++b).take i=a.take i:=by
 rw[List.take_append_of_le_length h]
theorem XN{a b:List α}:(a++b).take (a.length+i)=a++b.take i:=by
 rw[List.take_length_add_append]
theorem addQ{l Q:List GPosting}(h:Hu l) (hd:∀p∈l,p.Date<=d) (hq:∀q∈Q,Nk q/\q.Date=d) (hn:(Q.map (·.Month)).Nodup) (o:∀q∈Q,0<=pc uq q.Month l+uq q) (hl:l.length+Q.length<=4096):Hu (l++Q):=by
 refine⟨by rw[Faa];exact hl,λi hi=>?_⟩;rw[Faa]at hi;rcases dac i l.length with m|m
 .obtain⟨a,b,c⟩:=h.2 i m;rw[Jac m,YN (by omega)];refine⟨a,λn=>?_,c⟩;rw[Jac (by omega)];exact b n
 .obtain⟨j,rfl⟩:∃j,i=l.length+j:=⟨i-l.length,by omega⟩;have hj:j<Q.length:=by omega
  have e:(l++Q)[l.length+j]=Q[j]:=by simp
  rw[e];obtain⟨a,b⟩:=hq _ (taa hj);refine⟨a,λn=>?_,?_⟩
  .rw[b];rcases Nat.eq_zero_or_pos j with rfl|hj0
   .rw[Jac (by omega)];exact hd _ (taa _)
   .rw[Pad (by omega)];exact daf (hq _ (taa _)).2
  .rw[show l.length+j+1=l.length+(j+1) by omega,XN];have g:∀p∈l++Q.take (j+1),Nk p:=by
    intro p k;rcases Saa.1 k with k|k
    .exact h.post p k
    .exact(hq p (Mab k)).1
   rw[cw (by have:=h.1;rw[Faa,iab];omega) g,vn];have hm:Q[j]∈Q.take (j+1):=by
    rw[Bc hj];exact List.mem_append_right _ (oab.2 rfl)
   rw[gw (f:=uq) (jaf ((List.take_sublist _ _).map _) hn) hm];exact o _ (taa hj)
def Eu(a:GAppeal):Prop:=0<=a.Id/\(0<=a.From/\a.From<a.To/\a.To<=3600/\a.To-a.From<=120)/\(0<=a.Filed/\a.Filed<=a.Deadline/\a.Deadline<=109572)/\(1<=a.State/\a.State<=6)/\(0<=a.Cents/\a.Cents<=1000000000000000)/\(a.Cents=0\/a.State=3)
instance (a:GAppeal):Decidable (Eu a):=by unfold Eu;infer_instance
theorem Lz(a b:Int):re a b=some (decide (0<=a/\a<b/\b<=3600/\b-a<=120)):=by
 unfold re;by_cases c:0<=a
 case neg=>simp[c]
 by_cases h2:a<b
 case neg=>simp[c,h2]
 by_cases d:b<=3600
 case neg=>simp[c,h2,d]
 rw[wid (by omega) (by omega)];simp[c,h2,d]
theorem jF(a:GAppeal):Rp a=some (decide (Eu a)):=by
 unfold Rp Eu;rw[Lz];by_cases b:a.Id<0
 .have:¬0<=a.Id:=by omega
  simp[b,this]
 have f:0<=a.Id:=by omega
 by_cases h2:0<=a.From/\a.From<a.To/\a.To<=3600/\a.To-a.From<=120
 case neg=>simp only[b,h2,not_false_eq_true,if_true,kaa,decide_false,Bool.not_false,and_false,false_and]
 by_cases c:a.Filed<0
 .have:¬0<=a.Filed:=by omega
  simp[b,h2,c,this]
 have i:0<=a.Filed:=by omega
 by_cases d:a.Deadline<a.Filed
 .have:¬a.Filed<=a.Deadline:=by omega
  simp[b,h2,c,d,this]
 have j:a.Filed<=a.Deadline:=by omega
 by_cases e:109572<a.Deadline
 .have:¬a.Deadline<=109572:=by omega
  simp[b,h2,c,d,e,this]
 have k:a.Deadline<=109572:=by omega
 by_cases l:a.State<1
 .have:¬1<=a.State:=by omega
  simp[b,h2,c,d,e,l,this]
 have m:1<=a.State:=by omega
 by_cases o:6<a.State
 .have:¬a.State<=6:=by omega
  simp[b,h2,c,d,e,l,o,this]
 have n:a.State<=6:=by omega
 by_cases p:0<=a.Cents<;>by_cases q:a.Cents<=1000000000000000<;>by_cases g:a.Cents=0<;>by_cases h:a.State=3<;>simp[b,h2,c,d,e,l,o,f,i,j,k,m,n,p,q,g,h]
def Gq(c:GPayConfig) (m:Int):Prop:=c.FirstMonth<=m/\m<=min 3599 (aa .i64 (aa .i64 (c.FirstMonth+120)-1))
instance (c:GPayConfig) (m:Int):Decidable (Gq c m):=by unfold Gq;infer_instance
theorem PC(c:GPayConfig) (m:Int):xi c m=some (decide (Gq c m)):=by
 unfold xi Gq;by_cases h:c.FirstMonth<=m<;>simp[h]
theorem bB(d:Int):Rj d=some (decide (0<=d/\d<=109572)):=by
 unfold Rj;by_cases h:0<=d<;>simp[h]
structure AccOk (l:GLaw) (c:GPayConfig) (t:GAccount):Prop where
 cf:Fa l t.Household.Scope c=some 0
 hv:(EO l t.Household).2=0
 date:0<=t.Date/\t.Date<=109572
 last:t.LastMonth = -1\/Gq c t.LastMonth
 led:Hu t.Postings
 mon:∀p∈t.Postings,oF c t p.Month=false
 rL:t.Appeals.length<=16
 app:∀i (h:i<t.Appeals.length),Eu t.Appeals[i]/\t.Appeals[i].Id=(i:Int)
 late:cJ t=false
theorem OJ{t:GAccount}(h3:t.Appeals.length<=1048576):ea (Xg t) 0=some (fi () (ff (λi=>match t.Appeals[i]? with|some a=>if Eu a/\a.Id=(i:Int)then none else some (13:Int)|none=>none) t.Appeals.length)):=by
 refine kh (λi=>(i:Int)) _ t.Appeals.length () (λi hi _=>?_) (λ_=>?_)
 .unfold Xg;rw[if_pos (by omega),Ea hi,kaa,jF,naa hi,kaa];dsimp only;by_cases b:Eu t.Appeals[i]
  .by_cases h2:t.Appeals[i].Id=(i:Int)
   .simp[b,h2,zE,va (show i<4611686018427387904 by omega)]
   .simp[b,h2,zE]
  .simp[b,zE]
 .simp[Xg]
theorem Vf{l:GLaw}(hl:LawOk l) {c:GPayConfig}(hc:c.Calendar.Holidays.length<=1048576) {t:GAccount}(x:t.Household.Facts.length<=1048576) (h2:t.Postings.length<=1048576) (u:t.Appeals.length<=1048576) :
 ∃n,Ae l c t=some n/\(n=0↔AccOk l c t):=by
 obtain⟨n,s⟩:=dM hl hc t.Household.Scope;unfold Ae;rw[s,Sc l t.Household hl.ns];simp only[kaa];by_cases k:n=0
 case neg=>
  rw[if_pos k];refine⟨1,rfl,by simp,λh=>absurd ?_ k⟩;have:=h.cf;rw[s]at this;exact Iaa this
 rw[if_neg (saa.2 k)];by_cases hv:(EO l t.Household).2=0
 case neg=>rw[if_pos hv];exact⟨_,rfl,λh=>absurd h hv,λh=>absurd h.hv hv⟩
 rw[if_neg (saa.2 hv),bB,PC,kaa];have hd:(laa (α:=Bool) (if decide (0<=t.Date/\t.Date<=109572)=true then if¬t.LastMonth = -1 then(some (decide (Gq c t.LastMonth))).bind λy=>some (!y)else some false else some true) λb=>some b)=some (decide (¬((0<=t.Date/\t.Date<=109572)/\(t.LastMonth = -1\/Gq c t.LastMonth)))):=by
  by_cases a1:0<=t.Date/\t.Date<=109572<;>by_cases a2:t.LastMonth = -1<;>by_cases a3:Gq c t.LastMonth<;>simp[a1,a2,a3]
 rw[show∀o:Option Bool,(laa o λb=>some b)=o from λo=>by simp]at hd;rw[hd,kaa];by_cases a:(0<=t.Date/\t.Date<=109572)/\(t.LastMonth = -1\/Gq c t.LastMonth)
 case neg=>
  rw[decide_eq_true a,if_pos (rfl:true=true)];exact⟨3,rfl,by simp,λh=>absurd ⟨h.date,h.last⟩ a⟩
 rw[decide_eq_false (saa.2 a),if_neg (by simp),jB,kaa];by_cases d:Hu t.Postings
 case neg=>
  rw[if_pos (λe=>d (IC.1 e))];exact⟨_,rfl,λe=>absurd (IC.1 e) d,λh=>absurd h.led d⟩
 rw[if_neg (saa.2 (IC.2 d))];have m:=Nv (t.Postings.map (·.Month));rw[Waa]at m;rw[Z0 h2,kaa,xN h2 (by omega),WO,kaa];by_cases hm:(t.Postings.any λp=>oF c t p.Month)=true
 .rw[if_pos hm];refine⟨3,rfl,by simp,λh=>?_⟩;obtain⟨p,r,g⟩:=Rac.1 hm;rw[h.mon p r]at g;cases g
 rw[if_neg hm];dsimp only;have q:∀p∈t.Postings,oF c t p.Month=false:=λp d=>by
  cases hb:oF c t p.Month
  .rfl
  .exact absurd (Rac.2 ⟨p,d,hb⟩) hm
 by_cases ha:16<(t.Appeals.length:Int)
 .rw[if_pos ha];exact⟨4,rfl,by simp,λh=>by have:=h.rL;omega⟩
 rw[if_neg ha,OJ u,kaa]
 cases hf:ff (λi=>match t.Appeals[i]? with|some a=>if Eu a/\a.Id=(i:Int)then none else some (13:Int)|none=>none) t.Appeals.length with
 |some v=>
  obtain⟨i,w,j,-⟩:=vb.1 hf;rw[naa w]at j;dsimp only at j;split at j
  .cases j
  .rename_i hx;obtain rfl:=Iaa j;exact⟨13,rfl,by simp,λh=>absurd (h.app i w) hx⟩
 |none=>
  simp only[mQ];have f:∀i (h:i<t.Appeals.length),Eu t.Appeals[i]/\t.Appeals[i].Id=(i:Int):=λi hi=>by
   have:=sb.1 hf i hi;rw[naa hi]at this;dsimp only at this;split at this
   .assumption
   .cases this
  rw[OZ x h2 u,kaa]
  cases hb:cJ t with
  |true=>exact⟨9,rfl,by simp,λh=>by have:=h.late;rw[hb]at this;cases this⟩
  |false=>exact⟨0,rfl,λ_=>⟨by rw[s,k],hv,a.1,a.2,d,q,by omega,f,hb⟩,λ_=>rfl⟩
structure BalB (b:GMonthBalance):Prop where
 due:0<=b.Due/\b.Due<=1000000000000000
 rcv:0<=b.Received/\b.Received<=1000000000000000
 wai:0<=b.Waived/\b.Waived<=1000000000000000
 mon:0<=b.Month/\b.Month<=3599
variable {b:GMonthBalance}
def Mh(b:GMonthBalance):Int:=max (b.Due-b.Received) 0
def sh(b:GMonthBalance):Int:=max (b.Received-b.Due-b.Waived) 0
theorem qR(h:BalB b):Df b=some (Mh b):=by
 obtain⟨h1,h2,h3,h4⟩:=h;unfold Df Mh;rw[wid (by omega) (by omega)]
theorem HG(h:BalB b):Jb b=some (sh b):=by
 obtain⟨h1,h2,h3,h4⟩:=h;unfold Jb sh;rw[wid (n:=b.Received-b.Due) (by omega) (by omega),wid (by omega) (by omega)]
theorem pR(h:BalB b):0<=Mh b/\Mh b<=1000000000000000:=by
 obtain⟨h1,h2,h3,h4⟩:=h;unfold Mh;omega
theorem QS(h:BalB b):0<=sh b/\sh b<=1000000000000000:=by
 obtain⟨h1,h2,h3,h4⟩:=h;unfold sh;omega
def ku(to d:Int) (l:List GMonthBalance):List GPosting:=l.filterMap λb=>if b.Month<=to/\0<Mh b then some ⟨d,b.Month,1,Mh b⟩else none
def Kt(l:List GPosting):Int:=(l.map (·.Cents)).sum
theorem o5{a b:List GPosting}:Kt (a++b)=Kt a+Kt b:=by simp[Kt]
def Bm(kind d:Int) (om:Int->Bool):Int->List GMonthBalance->List GPosting×Int
 |rem,[]=>([],rem)
 |rem,b::bs=>if 0<rem then(if sh b<=0\/om b.Month=true then Bm kind d om rem bs else(⟨d,b.Month,kind,min (sh b) rem⟩::(Bm kind d om (rem-min (sh b) rem) bs).1,(Bm kind d om (rem-min (sh b) rem) bs).2))else([],rem)
theorem wy{to:Int}{l:List GMonthBalance}:(ku to d l).length<=l.length:=Xab _ _
theorem NG{to d:Int}:∀{l:List GMonthBalance},(∀b∈l,BalB b)->0<=Kt (ku to d l)/\Kt (ku to d l)<=1000000000000000*(l.length:Int)
 |[],_=>by simp[ku,Kt]
 |b::l,h=>by
  have a:=NG (to:=to) (d:=d) (l:=l) λx hx=>h x (by simp[hx]);have hb:=pR (h b (by simp));unfold ku at a⊢;rw[Nac];by_cases hc:b.Month<=to/\0<Mh b
  .rw[if_pos hc];simp only[Kt,vaa,zab,qaa]at a⊢;omega
  .rw[if_neg hc];simp only[qaa];omega
theorem pT{x:α}{l:List α}:oA (x::l) 1=some l:=by
 have:=l5 (l:=x::l) (i:=1) (by simp);simpa using this
theorem caa{x:α}{l:List α}:idx (x::l) 0=some x:=by
 have:=Ea (l:=x::l) (i:=0) (by simp);simpa using this
theorem RC{d:Int}{f:List (Int×Bool)}:∀{l:List GMonthBalance}{rem:Int}{acc:List GPosting},(∀b∈l,BalB b)->acc.length+l.length<=1048576->0<=rem/\rem<9223372036854775807->
 ea (Zf d f) (rem,acc,l)=some (.inl ((Bm 2 d (λm=>(Hz f m).getD false) rem l).2,acc++(Bm 2 d (λm=>(Hz f m).getD false) rem l).1))
 |[],rem,acc,_,_,_=>by
  refine(Va (b:=(rem,acc)) ?_).trans (by simp[Bm]);simp[Zf]
 |b::l,rem,acc,hb,hl,hr=>by
  have a:=hb b (by simp);have ho:=QS a;simp only[qaa]at hl;by_cases c:0<rem
  case neg=>
   refine(Va (b:=(rem,acc)) ?_).trans (by simp[Bm,c]);unfold Zf;simp[c]
  rw[Bm,if_pos c];by_cases hc:sh b<=0\/(Hz f b.Month).getD false=true
  .rw[if_pos hc];rw[Jc (s':=(rem,acc,l)) ?_,RC (λx hx=>hb x (by simp[hx])) (by omega) hr];unfold Zf;simp only[qaa,caa,kaa,HG a,pT];rw[if_pos (by omega),kaa,decide_eq_true c,if_pos (rfl:true=true)];by_cases g:sh b<=0
   .simp[g]
   .rcases hc with h|h
    .exact absurd h g
    .simp[g,h]
  .rw[if_neg hc];have e:=not_or.1 hc;rw[Jc (s':=(rem-min (sh b) rem,acc++[⟨d,b.Month,2,min (sh b) rem⟩],l)) ?_,RC (λx hx=>hb x (by simp[hx])) (by rw[Faa];simp only[qaa,Aaa];omega) (by omega)]
   .simp
   .unfold Zf;simp only[qaa,caa,kaa,HG a,pT];rw[if_pos (by omega),kaa,decide_eq_true c,if_pos (rfl:true=true),Kh (by simp only[qaa,Aaa];omega),wid (by omega) (by omega)];simp[e.1,e.2]
theorem kA{d:Int}:∀{l:List GMonthBalance}{rem:Int}{acc:List GPosting},(∀b∈l,BalB b)->acc.length+l.length<=1048576->0<=rem/\rem<9223372036854775807->
 ea (nf d) (rem,acc,l)=some (.inl ((Bm 3 d (λ_=>false) rem l).2,acc++(Bm 3 d (λ_=>false) rem l).1))
 |[],rem,acc,_,_,_=>by
  refine(Va (b:=(rem,acc)) ?_).trans (by simp[Bm]);simp[nf]
 |b::l,rem,acc,hb,hl,hr=>by
  have a:=hb b (by simp);have ho:=QS a;simp only[qaa]at hl;by_cases c:0<rem
  case neg=>
   refine(Va (b:=(rem,acc)) ?_).trans (by simp[Bm,c]);unfold nf;simp[c]
  rw[Bm,if_pos c];by_cases e:sh b<=0
  .rw[if_pos (.inl e)];rw[Jc (s':=(rem,acc,l)) ?_,kA (λx hx=>hb x (by simp[hx])) (by omega) hr];unfold nf;simp only[qaa,caa,kaa,HG a,pT];rw[if_pos (by omega),kaa,decide_eq_true c,if_pos (rfl:true=true)];simp[e]
  .rw[if_neg (by simp[e])];rw[Jc (s':=(rem-min (sh b) rem,acc++[⟨d,b.Month,3,min (sh b) rem⟩],l)) ?_,kA (λx hx=>hb x (by simp[hx])) (by rw[Faa];simp only[qaa,Aaa];omega) (by omega)]
   .simp
   .unfold nf;simp only[qaa,caa,kaa,HG a,pT];rw[if_pos (by omega),kaa,decide_eq_true c,if_pos (rfl:true=true),Kh (by simp only[qaa,Aaa];omega),wid (by omega) (by omega)];simp[e]
theorem Um{kind d:Int}{om:Int->Bool}:∀{l:List GMonthBalance}{rem:Int}{q:GPosting},q∈(Bm kind d om rem l).1->∃b∈l,q.Month=b.Month/\q.Date=d/\q.Kind=kind/\1<=q.Cents/\q.Cents<=sh b/\om b.Month=false
 |[],rem,q,h=>by simp[Bm]at h
 |b::l,rem,q,h=>by
  rw[Bm]at h;by_cases a:0<rem
  case neg=>rw[if_neg a]at h;simp at h
  rw[if_pos a]at h;by_cases hc:sh b<=0\/om b.Month=true
  .rw[if_pos hc]at h;obtain⟨x,hx,r⟩:=Um h;exact⟨x,by simp[hx],r⟩
  .rw[if_neg hc]at h;rcases lab.1 h with rfl|h
   .exact⟨b,by simp,rfl,rfl,rfl,by simp only;omega,by simp only;omega,by simpa using(not_or.1 hc).2⟩
   .obtain⟨x,hx,r⟩:=Um h;exact⟨x,by simp[hx],r⟩
theorem xw{kind d:Int}{om:Int->Bool}:∀{l:List GMonthBalance}{rem:Int},(l.map (·.Month)).Nodup->((Bm kind d om rem l).1.map (·.Month)).Nodup
 |[],rem,_=>by simp[Bm]
 |b::l,rem,h=>by
  simp only[vaa,vab]at h;rw[Bm];by_cases a:0<rem
  case neg=>rw[if_neg a];simp
  rw[if_pos a];by_cases hc:sh b<=0\/om b.Month=true
  .rw[if_pos hc];exact xw h.2
  .rw[if_neg hc];simp only[vaa,vab];refine⟨λhm=>?_,xw h.2⟩;obtain⟨q,hq,he⟩:=Paa.1 hm;obtain⟨x,hx,e,-⟩:=Um hq;exact h.1 (Paa.2 ⟨x,hx,by rw[←e,he]⟩)
theorem FF{kind d:Int}{om:Int->Bool}:∀{l:List GMonthBalance}{rem:Int},0<=rem->Kt (Bm kind d om rem l).1=rem-(Bm kind d om rem l).2/\0<=(Bm kind d om rem l).2
 |[],rem,h=>by simp[Bm,Kt,h]
 |b::l,rem,h=>by
  rw[Bm];by_cases a:0<rem
  case neg=>rw[if_neg a];simp[Kt,h]
  rw[if_pos a];by_cases hc:sh b<=0\/om b.Month=true
  .rw[if_pos hc];exact FF h
  .rw[if_neg hc];have c:=FF (kind:=kind) (d:=d) (om:=om) (l:=l) (rem:=rem-min (sh b) rem) (by omega);simp only[Kt,vaa,zab]at c⊢;omega
theorem Xt{kind d:Int}{om:Int->Bool}:∀{l:List GMonthBalance}{rem:Int},(Bm kind d om rem l).1.length<=l.length
 |[],rem=>by simp[Bm]
 |b::l,rem=>by
  rw[Bm];by_cases a:0<rem
  case neg=>rw[if_neg a];simp
  rw[if_pos a];by_cases hc:sh b<=0\/om b.Month=true
  .rw[if_pos hc];have:=Xt (kind:=kind) (d:=d) (om:=om) (l:=l) (rem:=rem);simp only[qaa];omega
  .rw[if_neg hc];have:=Xt (kind:=kind) (d:=d) (om:=om) (l:=l) (rem:=rem-min (sh b) rem);simp only[qaa];omega
theorem aw{to:Int}{l:List GMonthBalance}(h:q∈ku to d l):∃b∈l,q.Month=b.Month/\q.Date=d/\q.Kind=1/\q.Cents=Mh b/\0<Mh b/\b.Month<=to:=by
 obtain⟨b,hb,h⟩:=iac.1 h;split at h
 .rename_i hc;obtain rfl:=Iaa h;exact⟨b,hb,rfl,rfl,rfl,rfl,hc.2,hc.1⟩
 .cases h
theorem MG{to d:Int}:∀{l:List GMonthBalance},(l.map (·.Month)).Nodup->((ku to d l).map (·.Month)).Nodup
 |[],_=>by simp[ku]
 |b::l,h=>by
  simp only[vaa,vab]at h;have a:=MG (to:=to) (d:=d) h.2;unfold ku at a⊢;rw[Nac];by_cases hc:b.Month<=to/\0<Mh b
  .rw[if_pos hc];simp only[vaa,vab];refine⟨λhm=>?_,a⟩;obtain⟨q,hq,he⟩:=Paa.1 hm;obtain⟨x,hx,e,-⟩:=aw hq;exact h.1 (Paa.2 ⟨x,hx,by rw[←e,he]⟩)
  .rw[if_neg hc];exact a
def upB(m:Int) (a:GAppeal):Bool:=decide (a.State=3/\a.From<=m/\m<a.To)
def fG(A:List GAppeal) (m:Int):Option Int:=(A.reverse.find? (upB m)).map (·.Cents)
theorem tV(hl:A.length<=1048576) (m:Int):qn A m=some (match fG A m with|some c=>(c,true)|none=>(0,false)):=by
 have key:∀k,k<=A.length->ea (Lg A m) ((k:Int)-1)=some (match ((A.take k).reverse.find? (upB m)).map (·.Cents)with|some c=>.inr (c,true)|none=>.inl ()):=by
  intro k
  induction k with
  |zero=>
   intro _;refine(Va (b:=()) ?_).trans rfl;simp[Lg]
  |succ k f=>
   intro hk;have a:Lg A m (((k+1:Nat):Int)-1)=some (if upB m A[k]=true then .ret (A[k].Cents,true)else .go ((k:Int)-1)):=by
    unfold Lg;rw[if_pos (by omega),show((k+1:Nat):Int)-1=((k:Nat):Int) by omega,Ea hk,kaa,wid (by omega) (by omega)];unfold upB;by_cases d:A[k].State=3<;>by_cases h2:A[k].From<=m<;>by_cases e:m<A[k].To<;>simp[d,h2,e]
   rw[Bc hk,List.reverse_append,List.reverse_singleton,List.singleton_append,List.find?_cons]
   cases hu:upB m A[k]with
   |true=>
    rw[hu,if_pos rfl]at a;rw[kr a];rfl
   |false=>
    rw[hu,if_neg (by simp)]at a;rw[Jc a,f (by omega)]
 have:=key A.length (Haa _);rw[aab]at this;unfold qn;rw[wid (by omega) (by omega),this];unfold fG;cases (A.reverse.find? (upB m)).map (·.Cents)<;>rfl
def Xz(A:List GAppeal) (w:GAward):GAward:=match fG A w.Month with|some c=>⟨w.Month,c,0⟩|none=>w
theorem Z7(hl:A.length<=1048576) {l:List GAward}(hn:l.length<=1048576):pj l A=some (l.map (Xz A)):=by
 unfold pj;have:ea (Gi l A) (([]:List GAward),0)=some (.inl (l.map (Xz A))):=by
  refine Od (λi=>((l.take i).map (Xz A),(i:Int))) l.length _ (λi hi=>?_) ?_ rfl
  .unfold Gi;dsimp only;rw[if_pos (by omega),Ea hi,kaa,tV hl,kaa];have a:((l.take i).map (Xz A)).length=i:=by rw[Waa,iab];omega
   have b:(laa (α:=Int×Int) (if(match fG A l[i].Month with|some c=>((c,true):Int×Bool)|none=>(0,false)).2=true then some ((match fG A l[i].Month with|some c=>((c,true):Int×Bool)|none=>(0,false)).1,0)else some (l[i].Cents,l[i].Code)) λx=>some (GAward.mk l[i].Month x.1 x.2))=some (Xz A l[i]):=by
    unfold Xz;cases fG A l[i].Month<;>simp
   rw[Bc hi,uab]
   cases h:fG A l[i].Month with
   |some c=>
    rw[h]at b;simp only[if_true,kaa]at b⊢;rw[Kh (by rw[a];simp only[qaa,Aaa];omega),kaa,va (by omega),vaa,gab,Iaa b]
   |none=>
    rw[h]at b;simp only[Eaa,if_false,kaa]at b⊢;rw[Kh (by rw[a];simp only[qaa,Aaa];omega),kaa,va (by omega),vaa,gab,Iaa b]
  .simp[Gi]
 rw[this,kaa]
noncomputable def Ue(l:GLaw) (c:GPayConfig) (t:GAccount) (to rec:Int):List GMonthBalance:=(xaa (to+1-c.FirstMonth).toNat).map λ(j:Nat)=>Pg t.Postings (Xz t.Appeals (fv l t.Household c (c.FirstMonth+j) rec))
theorem Mq:(Pg P w).Month=w.Month:=rfl
theorem Yz:(Xz A w).Month=w.Month:=by
 unfold Xz;cases fG A w.Month<;>rfl
theorem OL{l:GLaw}{c:GPayConfig}{t:GAccount}{to:Int}:(Ue l c t to rec).map (·.Month)=(xaa (to+1-c.FirstMonth).toNat).map λ(j:Nat)=>c.FirstMonth+(j:Int):=by
 unfold Ue;rw[jae];refine Hab λj _=>?_;simp only[vae,Mq,Yz,Kq]
theorem OD(a:Int) (n:Nat):((xaa n).map λ(j:Nat)=>a+(j:Int)).Nodup:=by
 refine List.pairwise_map.2 ?_;refine Uad ?_ List.pairwise_lt_range;intro i j h;omega
theorem Yo{l:GLaw}(hl:LawOk l) (a:FewR l) {t:GAccount}(d:t.Household.Facts.length<=64) {c:GPayConfig}(hc:c.Calendar.Holidays.length<=1048576) (e:t.Postings.length<=1048576) (ha:t.Appeals.length<=1048576) {to:Int}(hf:0<=c.FirstMonth) (ht:to<c.FirstMonth+120) (rec:Int) :
 ya l c t to rec=some (if to<c.FirstMonth\/3599<to then []else Ue l c t to rec):=by
 unfold ya;rw[orQ];by_cases h:to<c.FirstMonth\/3599<to
 .rw[decide_eq_true h,if_pos (rfl:true=true),if_pos h]
 rw[decide_eq_false h,if_neg (by simp),if_neg h,wid (by omega) (by omega),Gu hl a d hc (by omega) rec,kaa];have hn:(to+1-c.FirstMonth).toNat<=120:=by omega
 rw[if_neg (by simp only[Waa,wac];omega),Z7 ha (by simp only[Waa,wac];omega),kaa];unfold Qm;have b:(((xaa (to+1-c.FirstMonth).toNat).map λ(j:Nat)=>fv l t.Household c (c.FirstMonth+j) rec).map (Xz t.Appeals)).map (λw=>w.Month)=(xaa (to+1-c.FirstMonth).toNat).map λ(j:Nat)=>c.FirstMonth+(j:Int):=by
  rw[jae,jae];exact Hab λj _=>by simp only[vae,Yz,Kq]
 rw[if_pos ⟨by simp only[Waa,wac];omega,e,by rw[b];exact OD _ _⟩,kaa];simp only[jae];rfl
theorem av{f:GPosting->Int}{m:Int}:∀{l:List GPosting},pc f m (l.filter λp=>p.Month==m)=pc f m l
 |[]=>rfl
 |p::l=>by
  rw[Sac];by_cases h:p.Month=m
  .simp only[h,beq_self_eq_true,if_true,pc,av (l:=l)]
  .simp only[beq_iff_eq,h,if_false,pc,av (l:=l)];omega
theorem waiK_eq(m:Int) (l:List GPosting):ZQ m l=aR m l:=by
 unfold ZQ aR;rw[Jae];congr 1;funext s p;by_cases a:p.Kind=4<;>by_cases h2:p.Month=m<;>simp[a,h2]
theorem n8(h:Hu P) (w:GAward):(Pg P w).Received=pc uq w.Month P/\(Pg P w).Waived=pc Bz w.Month P:=by
 have hf:∀p∈P.filter (λp=>p.Month==w.Month),Nk p:=λp a=>h.post p (hac.1 a).1;have hl:(P.filter λp=>p.Month==w.Month).length<=8200:=Qab (List.length_filter_le _ _) (by have:=h.1;omega);unfold Pg;refine⟨?_,?_⟩
 .show oE w.Month _ [1,2,3]=_;rw[PK,cw hl hf,av]
 .show ZQ w.Month _=_;rw[waiK_eq,AH hl hf,av]
theorem yQ(h:Hu P) (m:Int):0<=pc uq m P:=by
 have key:∀k,k<=P.length->0<=pc uq m (P.take k):=by
  intro k
  induction k with
  |zero=>intro _;exact aad _
  |succ k b=>
   intro hk;by_cases hm:P[k].Month=m
   .have:=(h.2 k hk).2.2;rw[hm,cw (by rw[iab];have:=h.1;omega) (λp a=>h.post p (Mab a))]at this;exact this
   .rw[Bc hk,vn];simp only[pc,if_neg hm];have:=b (by omega);omega
 have:=key P.length (Haa _);rwa [aab]at this
theorem sR{c:GPayConfig}{t:GAccount}(h:oF c t m=false):c.FirstMonth<=m/\m<=t.LastMonth/\tx m t.Postings<=1000000000000000/\aR m t.Postings<=1000000000000000:=by
 unfold oF at h;simp only[decide_eq_false_iff_not,not_or,Iae]at h;exact h
theorem ZS{l:GLaw}{c:GPayConfig}{t:GAccount}(h:AccOk l c t) (m:Int):pc uq m t.Postings<=1000000000000000/\pc Bz m t.Postings<=1000000000000000:=by
 by_cases he:∃p∈t.Postings,p.Month=m
 .obtain⟨p,a,rfl⟩:=he;obtain⟨-,-,b,h2⟩:=sR (h.mon p a);have hl:t.Postings.length<=8200:=by have:=h.led.1;omega
  rw[cw hl h.led.post]at b;rw[AH hl h.led.post]at h2;exact⟨b,h2⟩
 .have hn:∀p∈t.Postings,p.Month≠m:=λp a e=>he ⟨p,a,e⟩;rw[nr hn,nr hn];omega
theorem W9{x:Int}(h:fG A m=some x):∃a∈A,a.Cents=x:=by
 unfold fG at h;obtain⟨a,ha,rfl⟩:=Option.map_eq_some_iff.1 h;exact⟨a,by simpa using List.mem_of_find?_eq_some ha,rfl⟩
theorem cU{l:GLaw}(hl:LawOk l) (b:FewR l) (n:h.Facts.length<=64) {c:GPayConfig}(hc:c.Calendar.Holidays.length<=1048576) :0<=(fv l h c m rec).Cents/\(fv l h c m rec).Cents<=1000000000000000:=by
 by_cases a:(fv l h c m rec).Code=0
 case neg=>
  have:(fv l h c m rec).Cents=0:=by
   unfold fv at a⊢;split
   .rfl
   .rename_i j;rw[if_neg j]at a;split
    .rfl
    .rename_i h2;rw[if_neg h2]at a;exact W7 a
  omega
 obtain⟨f,g,k3⟩:=aY a;obtain⟨v,q,t⟩:=Oz hl (λx hx=>Qab (b.s x hx) (by decide)) (h:=h) (by omega) (c:=c) hc;rw[q,Nab]at g;obtain⟨i,H⟩:=t g;have hi:h.Scope.toNat=i:=by have:=H.sc;omega
 rw[hi]at k3;rw[k3]at a⊢;dsimp only at a⊢;obtain⟨c1,-⟩:=QC (l:=l) (h:=h) (rec:=rec) f b n;obtain⟨d2,d3,d4,d5⟩:=IS f;obtain⟨a1,a2⟩:=amt_ok a;rw[a2];generalize oQ l h m rec=P at *;have hds:=(Nq c1).1;have e:∀p∈P,-1000000000000000<=(ie l i h c.Def rec p.From).1.N/\(ie l i h c.Def rec p.From).1.N<=1000000000000000:=λp o=>xB H rec p.From (a1 p o);obtain⟨u,w⟩:=VB (v:=λd=>(ie l i h c.Def rec d).1.N) c1 e;have k:1<=Ur P/\Ur P<=31:=by omega
 have:=gM (mode:=c.Rounding) k H.cf.r (by omega) u w;omega
theorem AccOk.Y7{l:GLaw}{c:GPayConfig}{t:GAccount}(h:AccOk l c t):∀a∈t.Appeals,Eu a:=by
 intro a ha;obtain⟨i,hi,rfl⟩:=waa ha;exact(h.app i hi).1
theorem bal_B{l:GLaw}(hl:LawOk l) (d:FewR l) {t:GAccount}(h:t.Household.Facts.length<=64) {c:GPayConfig}(hc:c.Calendar.Holidays.length<=1048576) (ht:AccOk l c t) {to:Int}(hf:0<=c.FirstMonth) (hto:to<=3599):∀b∈Ue l c t to rec,BalB b/\b.Received=pc uq b.Month t.Postings/\b.Waived=pc Bz b.Month t.Postings/\c.FirstMonth<=b.Month/\b.Month<=to:=by
 intro b hb;obtain⟨j,hj,rfl⟩:=Paa.1 hb;obtain⟨w,hw⟩:∃w,w=Xz t.Appeals (fv l t.Household c (c.FirstMonth+j) rec):=⟨_,rfl⟩;rw[←hw];have hm:w.Month=c.FirstMonth+j:=by rw[hw,Yz,Kq]
 have hjl:=Eac.1 hj;obtain⟨e,f⟩:=n8 ht.led w;have h1:=yQ ht.led w.Month;have h2:=ZS ht w.Month;have h3:=ax (m:=w.Month) ht.led.post;refine⟨⟨?_,by rw[e];omega,by rw[f];omega,by rw[Mq];omega⟩,e,f,by rw[Mq];omega,by rw[Mq];omega⟩;have hd:(Pg t.Postings w).Due=if w.Code=0 then w.Cents else(Pg t.Postings w).Received:=rfl;rw[hd];split
 .rw[hw];unfold Xz
  cases g:fG t.Appeals (fv l t.Household c (c.FirstMonth+j) rec).Month with
  |none=>exact cU hl d h hc
  |some x=>
   obtain⟨a,ha,rfl⟩:=W9 g;exact(ht.Y7 a ha).2.2.2.2.1
 .rw[e];omega
theorem NQ{q:List Int}{t:Int}(hl:q.length<=1048576):∃r,Sa q t=some r:=by
 unfold Sa;obtain⟨b,a,k,rfl,h2⟩:=BS (step:=qb q t) (λs=>∃i j:Nat,s=((i:Int),(j:Int))/\i<=j/\j<=q.length) (λs=>(s.2-s.1).toNat) (λb=>∃k:Nat,b=(k:Int)/\k<=q.length) (by
  rintro s ⟨i,j,rfl,a1,a2⟩;unfold qb;dsimp only;by_cases hij:i<j
  .left;rw[if_pos (by omega),mid (by omega),Ea (show(i+j) / 2<q.length by omega),kaa,wF,kaa];by_cases hx:q[(i+j) / 2]'(by omega)<t
   .exact⟨_,by rw[if_pos (by simp[hx]),va (by omega)],⟨(i+j) / 2+1,j,rfl,by omega,a2⟩,by simp only;omega⟩
   .exact⟨_,by rw[if_neg (by simp[hx])],⟨i,(i+j) / 2,rfl,by omega,by omega⟩,by simp only;omega⟩
  .right;exact⟨_,by rw[if_neg (by omega)],i,rfl,by omega⟩) q.length (0,(q.length:Int)) (by simp) ⟨0,q.length,rfl,by omega,by omega⟩
 rw[a,kaa];dsimp only;unfold Jh;by_cases hk:k<q.length
 .rw[if_pos (by omega),Ea hk,kaa];by_cases he:q[k]=t<;>simp[he]
 .rw[if_neg (by omega)];simp
theorem VW{c:GCalendar}(hc:c.Holidays.length<=1048576) (hd:0<=d/\d<=109572):∃b,Po c d=some b:=by
 unfold Po Gt;rw[Pn,kaa,decide_eq_true hd,if_neg (by simp),kaa];unfold shrO;rw[if_neg (by have:=Int.tmod_nonneg 7 hd.1;omega),kaa];split
 .exact⟨_,rfl⟩
 .obtain⟨r,hr⟩:=NQ (t:=d) hc;rw[hr];exact⟨_,rfl⟩
theorem NS{c:GCalendar}(hc:c.Holidays.length<=1048576) {d0 n0:Int}(hd:0<=d0/\d0<=109573):∃r,Ip c d0 n0=some r/\(r.2=0->d0<=r.1/\r.1<=109572):=by
 unfold Ip;rcases nB (s:=Bq c) (λx=>d0<=x.1/\x.1<=109573) (λx=>(109573-x.1).toNat) (λ_=>True) (λr=>r.2=0->d0<=r.1/\r.1<=109572) (by
  rintro⟨a,b⟩ ⟨e,h2⟩;dsimp only at e h2;unfold Bq;dsimp only;by_cases h:a<=109572
  .rw[if_pos h];obtain⟨w,hw⟩:=VW hc (d:=a) ⟨by omega,h⟩;rw[hw,kaa]
   cases w with
   |false=>
    refine .inl ⟨_,rfl,?_,?_⟩<;>dsimp only<;>rw[wid (by omega) (by omega)]<;>omega
   |true=>
    rw[if_neg (by simp)];by_cases f:aa .i64 (b-1)=0
    .rw[if_pos f];exact .inr (.inr ⟨_,rfl,λ_=>⟨e,h⟩⟩)
    .rw[if_neg f];refine .inl ⟨_,rfl,?_,?_⟩<;>dsimp only<;>rw[wid (by omega) (by omega)]<;>omega
  .rw[if_neg h];exact .inr (.inl ⟨_,rfl,trivial⟩)) (x:=(d0,n0)) ⟨by simp,hd.2⟩with⟨b,e,-⟩|⟨r,e,h2⟩
 .rw[e];exact⟨(0,6),rfl,λh=>by simp at h⟩
 .rw[e];exact⟨r,rfl,h2⟩
theorem DT(d:Int):Vd d=some (decide (0<=d/\d<=109572)):=by
 unfold Vd;by_cases h:0<=d<;>simp[h]
theorem w7{c:GCalendar}(hc:c.Holidays.length<=1048576) (hd:0<=d/\d<=109572):∃r,Ps c d n=some r/\(r.2=0->d<=r.1/\r.1<=109572):=by
 obtain⟨v,hv⟩:=kY hc;unfold Ps;rw[hv,kaa]
 cases v with
 |false=>exact⟨(0,1),by simp,λh=>by simp at h⟩
 |true=>
  rw[if_neg (by simp),DT,kaa,decide_eq_true hd,if_pos (rfl:true=true),orQ];by_cases hn:n<0\/365<n
  .rw[decide_eq_true hn];exact⟨(0,3),by simp,λh=>by simp at h⟩
  rw[decide_eq_false hn,if_neg (by simp)];by_cases b:n=0
  .rw[if_pos b];unfold Mt;rw[hv,kaa,if_neg (by simp),DT,kaa,decide_eq_true hd,if_neg (by simp)];obtain⟨r,a,h2⟩:=NS hc (d0:=d) (n0:=1) ⟨hd.1,by omega⟩;rw[a];exact⟨r,rfl,h2⟩
  .rw[if_neg b,wid (by omega) (by omega)];obtain⟨r,a,h2⟩:=NS hc (d0:=d+1) (n0:=n) (by omega);rw[a];exact⟨r,rfl,λh=>by have:=h2 h;omega⟩
theorem PM{c:GCalendar}(hc:c.Holidays.length<=1048576) (hd:0<=d/\d<=109572):∃r,Sj c d n=some r/\d<=r/\r<=109572:=by
 obtain⟨r,b,h2⟩:=w7 hc (n:=n) hd;unfold Sj;rw[b,kaa];by_cases a:r.2=0
 .rw[if_neg (saa.2 a)];exact⟨_,rfl,h2 a⟩
 .rw[if_pos a];exact⟨_,rfl,by omega,by omega⟩
theorem IL(d:Int):th d=some (decide (0<=d/\d<=109572)):=by
 unfold th;by_cases h:0<=d<;>simp[h]
theorem File_s{c:GPayConfig}(hc:c.Calendar.Holidays.length<=1048576) (id a b d n:Int):∃r,Qr id a b d n c=some r/\(r.2=0->Eu r.1/\r.1.Id=id/\r.1.Filed=d):=by
 unfold Qr;have hj:(laa (α:=Bool) (if¬id<0 then(th d).bind λs=>if s=true then(th n).bind λt=>if t=true then(re a b).bind λu=>some (!u)else some true else some true else some true) λx=>some x)=some (decide (¬(0<=id/\(0<=d/\d<=109572)/\(0<=n/\n<=109572)/\(0<=a/\a<b/\b<=3600/\b-a<=120)))):=by
  rw[IL,IL,Lz];by_cases k:id<0
  .have:¬0<=id:=by omega
   simp[k,this]
  have e:0<=id:=by omega
  by_cases h2:0<=d/\d<=109572<;>by_cases m:0<=n/\n<=109572<;>by_cases p:0<=a/\a<b/\b<=3600/\b-a<=120<;>simp[k,e,h2,m,p]
 rw[show∀o:Option Bool,(laa o λb=>some b)=o from λo=>by simp]at hj;rw[hj,kaa];by_cases h:0<=id/\(0<=d/\d<=109572)/\(0<=n/\n<=109572)/\(0<=a/\a<b/\b<=3600/\b-a<=120)
 case neg=>
  rw[decide_eq_true h,if_pos (rfl:true=true)];exact⟨_,rfl,λh=>by simp at h⟩
 rw[decide_eq_false (saa.2 h),if_neg (by simp)];by_cases i:d<n
 .rw[if_pos i];exact⟨_,rfl,λh=>by simp at h⟩
 rw[if_neg i];obtain⟨v,hv⟩:=kY hc;obtain⟨j,f⟩:∃j,(laa (je c.Calendar) λg=>if g=true then if¬c.AppealDays<0 then some (decide (365<c.AppealDays))else some true else some true)=some j:=by
  rw[hv,kaa];split
  .split<;>exact⟨_,rfl⟩
  .exact⟨_,rfl⟩
 rw[f,kaa]
 cases j with
 |true=>
  rw[if_pos (rfl:true=true)];exact⟨_,rfl,λh=>by simp at h⟩
 |false=>
  rw[if_neg (by simp)];obtain⟨q,g1,-⟩:=PM hc (n:=c.AppealDays) h.2.2.1;obtain⟨r2,g2,g3⟩:=PM hc (n:=60) h.2.1;rw[g1,kaa,g2,kaa];by_cases l:q<d
  .rw[if_pos l,kaa];exact⟨_,rfl,λ_=>⟨⟨h.1,h.2.2.2,⟨h.2.1.1,aad _,h.2.1.2⟩,by simp,by simp,.inl rfl⟩,rfl,rfl⟩⟩
  .rw[if_neg l,kaa];exact⟨_,rfl,λ_=>⟨⟨h.1,h.2.2.2,⟨h.2.1.1,g3⟩,by simp,by simp,.inl rfl⟩,rfl,rfl⟩⟩
theorem vN(a b:Int):∃r,Tj a b=some r/\(r=true->2<=b/\b<=5):=by
 unfold Tj;by_cases c:a=1<;>by_cases h2:a=2<;>by_cases d:b=2<;>by_cases e:b=4<;>by_cases f:b=3<;>by_cases g:b=5<;>simp[c,h2,d,e,f,g]
theorem IJ{a:GAppeal}(ha:Eu a) (s c d:Int):∃r,Li a s c d=some r/\(r.2=0->Eu r.1/\r.1.Id=a.Id/\r.1.Filed=a.Filed):=by
 unfold Li;obtain⟨p,l,m⟩:=vN a.State s;rw[l,kaa]
 cases p with
 |false=>exact⟨_,by rw[if_pos rfl],λh=>by simp at h⟩
 |true=>
  have hs:=m rfl;rw[if_neg (by simp)];by_cases f:d<a.Filed
  .exact⟨_,by rw[if_pos f],λh=>by simp at h⟩
  rw[if_neg f];obtain⟨j,hj⟩:∃j,(if a.Deadline<d then if¬s=2 then some (s==3)else some true else some false)=some j:=by
   split
   .split<;>exact⟨_,rfl⟩
   .exact⟨_,rfl⟩
  rw[hj,kaa]
  cases j with
  |true=>exact⟨_,by rw[if_pos rfl],λh=>by simp at h⟩
  |false=>
   rw[if_neg (by simp)];have hk:(if¬c<0 then if¬1000000000000000<c then if¬c=0 then some (s !=3)else some false else some true else some true)=some (decide (¬((0<=c/\c<=1000000000000000)/\(c=0\/s=3)))):=by
    by_cases h2:c<0
    .have:¬0<=c:=by omega
     simp[h2,this]
    have b:0<=c:=by omega
    by_cases g:1000000000000000<c
    .have:¬c<=1000000000000000:=by omega
     simp[h2,g,this]
    have e:c<=1000000000000000:=by omega
    by_cases i:c=0<;>by_cases k:s=3<;>simp[h2,g,b,e,i,k]
   rw[hk,kaa];by_cases h:(0<=c/\c<=1000000000000000)/\(c=0\/s=3)
   case neg=>exact⟨_,by rw[decide_eq_true h,if_pos rfl],λh=>by simp at h⟩
   rw[decide_eq_false (saa.2 h),if_neg (by simp)];obtain⟨a1,a2,a3,a4,a5,a6⟩:=ha;exact⟨_,rfl,λ_=>⟨⟨a1,a2,a3,by simp only;omega,h.1,h.2⟩,rfl,rfl⟩⟩
theorem Sp{l:GLaw}{sc:Int}{c:GPayConfig}(hv:Fa l sc c=some 0):(0<=c.FirstMonth/\c.FirstMonth<=3599)/\0<=c.RecoveryFloor/\c.RecoveryFloor<=1000000000000000:=by
 unfold Fa at hv;obtain⟨x1,-,hv⟩:=Ni hv;split at hv
 .simp at hv
 obtain⟨x2,-,hv⟩:=Ni hv;split at hv
 .simp at hv
 obtain⟨x3,-,hv⟩:=Ni hv;obtain⟨x4,-,hv⟩:=Ni hv;split at hv
 .simp at hv
 obtain⟨x5,-,hv⟩:=Ni hv;split at hv
 .simp at hv
 obtain⟨b,a,hv⟩:=Ni hv;split at hv
 .simp at hv
 rename_i hx;have hx:b=false:=by simpa using hx
 subst hx;simp only[orQ]at a;split at a
 .simp at a
 split at a
 .simp at a
 split at a
 .simp at a
 split at a
 .simp at a
 rename_i a1 a2 a3 a4;simp only[decide_eq_true_eq,not_or,Iae]at a3 a4;exact⟨a4,a3⟩
theorem lim_s{c:GPayConfig}(hc:0<=c.RecoveryFloor/\c.RecoveryFloor<=1000000000000000) {s:Int}(hs:0<=s/\s<=200000000000000000):∃x,mf s c=some x/\0<=x/\x<=200000000000000000:=by
 unfold mf kp;by_cases h:s<1
 .exact⟨0,by rw[if_pos h],by omega,by omega⟩
 rw[if_neg h,qy];simp only[kaa];split
 .exact⟨0,rfl,by omega,by omega⟩
 .rw[wid (by omega) (by omega)];exact⟨_,rfl,by omega,by omega⟩
theorem RN(hl:A.length<=1048576):∃r,ib A=some r/\r.length<=3600:=by
 unfold ib;have hm:py 8 (0:Int) 3601 3601=some (oaa 3601 0):=LC (n:=3601) (by omega) (by omega);rw[hm,kaa];rcases nB (s:=rf A) (λx=>x.1.length=3601/\∃j:Nat,x.2=(j:Int)/\j<=A.length) (λx=>(A.length-x.2).toNat) (λb=>b.length=3601) (λ_=>False) (by
  rintro⟨L,i⟩ ⟨a,j,h2,g⟩;dsimp only at a h2;subst h2;unfold rf;dsimp only;by_cases hj:j<A.length
  .rw[if_pos (by omega),Ea hj,kaa];obtain⟨b,hb⟩:∃b,(if¬A[j].State=1 then some (A[j].State !=2)else some false)=some b:=by split<;>exact⟨_,rfl⟩
   rw[hb,kaa,va (by omega)]
   cases b with
   |true=>exact .inl ⟨_,rfl,⟨a,j+1,rfl,hj⟩,by simp only;omega⟩
   |false=>
    rw[if_neg (by simp)];by_cases hf:max A[j].From 0<min A[j].To 3600
    .rw[if_pos hf];have e1:idx L (max A[j].From 0)=some (L[(max A[j].From 0).toNat]'(by omega)):=Zn (by omega) (by omega);rw[e1,kaa];have e2:∀x,put L (max A[j].From 0) x=some (L.set (max A[j].From 0).toNat x):=λx=>by unfold put;rw[if_pos (by omega)]
     rw[e2,kaa];have e3:∀M:List Int,M.length=3601->∃y,idx M (min A[j].To 3600)=some y:=λM k=>⟨_,Zn (by omega) (by omega)⟩;obtain⟨y,l⟩:=e3 (L.set (max A[j].From 0).toNat (aa .i64 (L[(max A[j].From 0).toNat]'(by omega)+1))) (by rw[qad];exact a);rw[l,kaa];have e4:∀(M:List Int) x,M.length=3601->put M (min A[j].To 3600) x=some (M.set (min A[j].To 3600).toNat x):=λM x k=>by unfold put;rw[if_pos (by omega)]
     rw[e4 _ _ (by rw[qad];exact a),kaa,kaa];exact .inl ⟨_,rfl,⟨by simp only[qad];exact a,j+1,rfl,hj⟩,by simp only;omega⟩
    .rw[if_neg hf,kaa];exact .inl ⟨_,rfl,⟨a,j+1,rfl,hj⟩,by simp only;omega⟩
  .rw[if_neg (by omega)];exact .inr (.inl ⟨_,rfl,a⟩)) (x:=(oaa 3601 0,0)) ⟨List.length_replicate,0,rfl,qab _⟩with⟨b,c,hb2⟩|⟨_,_,h⟩
 .rw[c,kaa];dsimp only;rcases nB (s:=qf b) (λx=>∃j:Nat,x.2.2=(j:Int)/\j<=3600/\x.1.length<=j) (λx=>(3600-x.2.2).toNat) (λb=>b.length<=3600) (λ_=>False) (by
   rintro⟨M,p,i⟩ ⟨j,a,h2,g⟩;dsimp only at a g;subst a;unfold qf;dsimp only;by_cases hj:j<3600
   .rw[if_pos (by omega),Ea (by omega),kaa,va (by omega)];by_cases f:0<aa .i64 (p+b[j])
    .rw[if_pos f,Kh (by simp only[qaa,Aaa];omega),kaa,kaa];exact .inl ⟨_,rfl,⟨j+1,rfl,hj,by simp only[Faa,qaa,Aaa];omega⟩,by simp only;omega⟩
    .rw[if_neg f,kaa];exact .inl ⟨_,rfl,⟨j+1,rfl,hj,by simp only;omega⟩,by simp only;omega⟩
   .rw[if_neg (by omega)];exact .inr (.inl ⟨_,rfl,by omega⟩)) (x:=(([]:List Int),0,0)) ⟨0,rfl,by omega,Haa _⟩with⟨r,d,e⟩|⟨_,_,h⟩
  .rw[d];exact⟨r,rfl,e⟩
  .exact h.elim
 .exact h.elim
theorem om_loop(hl:S.length<=1048576):∃a,ea (xk S) (([]:List (Int×Bool)),0)=some (.inl a)/\∀m,(Hz a m).getD false=decide (m∈S):=by
 refine⟨S.foldl (λb m=>jI m true b) [],?_,λm=>?_⟩
 .refine Od (λi=>((S.take i).foldl (λb m=>jI m true b) [],(i:Int))) S.length _ (λi hi=>?_) ?_ rfl
  .unfold xk;dsimp only;rw[if_pos (by omega),Ea hi,kaa,va (by omega),Bc hi,lac];rfl
  .simp[xk]
 .have key:∀(S:List Int) (b:List (Int×Bool)),(Hz (S.foldl (λb m=>jI m true b) b) m).getD false=(decide (m∈S) || (Hz b m).getD false):=by
   intro S
   induction S with
   |nil=>simp
   |cons x S c=>
    intro b;rw[eab,c,AG];by_cases h:m=x
    .subst h;simp
    .rw[if_neg h];simp[h]
  rw[key];simp[Hz]
def Yl(c:GPayConfig) (to d:Int) (S:List Int) (lim:Int) (l:List GMonthBalance):List GPosting:=ku to d l++(Bm 2 d (λm=>decide (m∈S)) lim l).1
theorem Pay_s{c:GPayConfig}(hc:0<=c.RecoveryFloor/\c.RecoveryFloor<=1000000000000000) {l:List GMonthBalance}(hb:∀b∈l,BalB b) (hl:l.length<=120) (hS:S.length<=1048576) (to d:Int) :
 ∃lim,mf (Kt (ku to d l)) c=some lim/\0<=lim/\lim<=200000000000000000/\Gs l to c d S=some (Yl c to d S lim l):=by
 have hsum:=NG (to:=to) (d:=d) hb;obtain⟨lim,n,t,u⟩:=lim_s hc (s:=Kt (ku to d l)) (by omega);refine⟨lim,n,t,u,?_⟩;unfold Gs;have j:ea (mn l to d) (([]:List GPosting),0,0)=some (.inl (ku to d l,Kt (ku to d l))):=by
  refine Od (λi=>(ku to d (l.take i),Kt (ku to d (l.take i)),(i:Int))) l.length _ (λi hi=>?_) ?_ rfl
  .have a:=hb _ (taa hi);have e:=NG (to:=to) (d:=d) (l:=l.take i) λb f=>hb b (Mab f);have g:=wy (to:=to) (d:=d) (l:=l.take i);have ha:=pR a;rw[iab]at e g;unfold mn;dsimp only;rw[if_pos (by omega),Ea hi,kaa,qR a,kaa,orQ,va (by omega),Bc hi];have r:ku to d (l.take i++[l[i]])=ku to d (l.take i)++if l[i].Month<=to/\0<Mh l[i]then [⟨d,l[i].Month,1,Mh l[i]⟩]else []:=by
    unfold ku;rw[iae];congr 1;by_cases h:l[i].Month<=to/\0<Mh l[i]
    .simp only[Nac,if_pos h,Bae]
    .simp only[Nac,if_neg h,Bae]
   rw[r];by_cases h:l[i].Month<=to/\0<Mh l[i]
   .rw[decide_eq_false (by omega),if_neg (by simp),if_pos h,Kh (by simp only[qaa,Aaa];omega),kaa,kaa,o5];simp only[Kt,vaa,gab,zab,kae];simp only[Kt]at e;rw[wid (by omega) (by omega),Zac]
   .rw[decide_eq_true (by omega),if_pos (rfl:true=true),if_neg h,kaa,Taa]
  .simp[mn]
 obtain⟨q,o,p⟩:=om_loop hS;rw[j,kaa];dsimp only;unfold Ir mr;have k:(λm=>(Hz q m).getD false)=λm=>decide (m∈S):=funext p;have hpl:=wy (to:=to) (d:=d) (l:=l);have hdl:=Xt (kind:=2) (d:=d) (om:=λm=>decide (m∈S)) (l:=l) (rem:=lim);rw[o,kaa];dsimp only;rw[n,kaa,RC hb (by simp only[Aaa];omega) (by omega),k];simp only[kaa,Qaa];rw[Kh (by omega)];rfl
theorem lR{l:List GMonthBalance}(hb:∀b∈l,BalB b) (hl:l.length<=120) {cents:Int}(hc:1<=cents/\cents<=1000000000000000) (d:Int):pn l cents d=some ((Bm 3 d (λ_=>false) cents l).1,(Bm 3 d (λ_=>false) cents l).2):=by
 unfold pn pq;rw[if_neg (by omega),kA hb (by simp only[Aaa];omega) (by omega)];simp only[kaa,Qaa]
theorem Eo{t:GAccount}:cJ t=false↔(∀f∈t.Household.Facts,f.Recorded<=t.Date)/\(∀p∈t.Postings,p.Date<=t.Date)/\∀a∈t.Appeals,a.Filed<=t.Date:=by
 unfold cJ;simp only[Bool.or_eq_false_iff,List.any_eq_false,decide_eq_true_eq,Iae]
theorem Gq.N3{c:GPayConfig}(hc:0<=c.FirstMonth/\c.FirstMonth<=3599) (h:Gq c m):c.FirstMonth<=m/\m<=3599/\m<c.FirstMonth+120:=by
 unfold Gq at h;rw[wid (n:=c.FirstMonth+120) (by omega) (by omega),wid (by omega) (by omega)]at h;omega
theorem aL{Q:List GPosting}(hn:(Q.map (·.Month)).Nodup) (m:Int):pc f m Q=0\/∃q∈Q,q.Month=m/\pc f m Q=f q:=by
 by_cases h:∃q∈Q,q.Month=m
 .obtain⟨q,hq,rfl⟩:=h;exact .inr ⟨q,hq,rfl,gw hn hq⟩
 .exact .inl (nr λp a e=>h ⟨p,a,e⟩)
theorem AccOk.addP{l:GLaw}{c:GPayConfig}{t:GAccount}(h:AccOk l c t) {lm:Int}{Q:List GPosting}(hd:t.Date<=d/\d<=109572) (k:lm=t.LastMonth\/(Gq c lm/\t.LastMonth<=lm)) (hq:∀q∈Q,Nk q/\q.Date=d) (hn:(Q.map (·.Month)).Nodup)
 (n:∀q∈Q,0<=pc uq q.Month t.Postings+uq q/\pc uq q.Month t.Postings+uq q<=1000000000000000/\pc Bz q.Month t.Postings+Bz q<=1000000000000000) (hm:∀q∈Q,c.FirstMonth<=q.Month/\q.Month<=lm) (hl:t.Postings.length+Q.length<=4096) :
 AccOk l c ⟨t.Household,t.Postings++Q,t.Appeals,d,lm⟩:=by
 obtain⟨s,r,u⟩:=Eo.1 h.late;have hd1:=h.date;have b:Hu (t.Postings++Q):=addQ h.led (λp g=>by have:=r p g;omega) hq hn (λq m=>(n q m).1) hl;have i:(t.Postings++Q).length<=8200:=by have:=b.1;omega
 refine⟨h.cf,h.hv,by simp only;omega,?_,b,?_,h.rL,h.app,?_⟩
 .rcases k with e|e
  .rw[e];exact h.last
  .exact .inr e.1
 .intro p g;have j:c.FirstMonth<=p.Month/\p.Month<=lm:=by
   rcases Saa.1 g with g|g
   .obtain⟨b1,b2,-⟩:=sR (h.mon p g);rcases k with e|e
    .omega
    .omega
   .exact hm p g
  obtain⟨x1,x2⟩:=ZS h p.Month;unfold oF;simp only[decide_eq_false_iff_not,not_or,Iae];refine⟨j.1,j.2,?_,?_⟩
  .rw[cw i b.post,vn];rcases aL (f:=uq) hn p.Month with e|⟨q,q1,o,v⟩
   .omega
   .have:=(n q q1).2.1;rw[o]at this;omega
  .rw[AH i b.post,vn];rcases aL (f:=Bz) hn p.Month with e|⟨q,q1,o,v⟩
   .omega
   .have:=(n q q1).2.2;rw[o]at this;omega
 .refine Eo.2 ⟨λf hf=>?_,λp g=>?_,λa ha=>?_⟩
  .have:=s f hf;simp only;omega
  .simp only;rcases Saa.1 g with g|g
   .have:=r p g;omega
   .exact daf (hq p g).2
  .have:=u a ha;simp only;omega
def PT(b:GMonthBalance) (q:GPosting):Prop:=q.Month=b.Month/\1<=q.Cents/\((q.Kind=1/\q.Cents=Mh b)\/((q.Kind=2\/q.Kind=3)/\q.Cents<=sh b)\/(q.Kind=4/\q.Cents<=sh b))
theorem PT.ok(hb:BalB b) (h:PT b q) (a:b.Received=pc uq b.Month P) (h2:b.Waived=pc Bz b.Month P) (hd:0<=q.Date/\q.Date<=109572) :
 Nk q/\0<=pc uq q.Month P+uq q/\pc uq q.Month P+uq q<=1000000000000000/\pc Bz q.Month P+Bz q<=1000000000000000:=by
 obtain⟨b1,b2,b3,b4⟩:=hb;obtain⟨e,e1,e2⟩:=h;rw[e,←a,←h2];unfold Mh sh at e2;unfold Nk;rw[e];rcases e2 with⟨k,e2⟩|⟨k,e2⟩|⟨k,e2⟩
 .have s1:uq q=q.Cents:=by unfold uq;rw[if_pos k]
  have s2:Bz q=0:=by unfold Bz;rw[if_neg (by omega)]
  rw[s1,s2];omega
 .have s1:uq q = -q.Cents:=by unfold uq;rw[if_neg (by omega),if_pos k]
  have s2:Bz q=0:=by unfold Bz;rw[if_neg (by omega)]
  rw[s1,s2];omega
 .have s1:uq q=0:=by unfold uq;rw[if_neg (by omega),if_neg (by omega)]
  have s2:Bz q=q.Cents:=by unfold Bz;rw[if_pos k]
  rw[s1,s2];omega
structure BalL (c:GPayConfig) (t:GAccount) (to:Int) (l:List GMonthBalance):Prop where
 b:∀b∈l,BalB b/\b.Received=pc uq b.Month t.Postings/\b.Waived=pc Bz b.Month t.Postings/\c.FirstMonth<=b.Month/\b.Month<=to
 nd:(l.map (·.Month)).Nodup
 len:l.length<=120
variable {to:Int}
theorem AccOk.T7{l:GLaw}{c:GPayConfig}{t:GAccount}(h:AccOk l c t) {lm:Int}{Q:List GPosting}(j:BalL c t lm B) (hd:t.Date<=d/\d<=109572) (i:lm=t.LastMonth\/(Gq c lm/\t.LastMonth<=lm)) (hq:∀q∈Q,q.Date=d/\∃b∈B,PT b q) (hn:(Q.map (·.Month)).Nodup) (hl:t.Postings.length+Q.length<=4096) :
 AccOk l c ⟨t.Household,t.Postings++Q,t.Appeals,d,lm⟩:=by
 have hd1:=h.date;have key:∀q∈Q,Nk q/\0<=pc uq q.Month t.Postings+uq q/\pc uq q.Month t.Postings+uq q<=1000000000000000/\pc Bz q.Month t.Postings+Bz q<=1000000000000000:=λq a=>by
  obtain⟨e,b,f,g⟩:=hq q a;obtain⟨k,m,k3,-⟩:=j.b b f;exact g.ok k m k3 (by rw[e];omega)
 refine h.addP hd i (λq a=>⟨(key q a).1,(hq q a).1⟩) hn (λq a=>(key q a).2) (λq a=>?_) hl;obtain⟨-,b,f,g⟩:=hq q a;obtain⟨-,-,-,k4,k5⟩:=j.b b f;rw[g.1];exact⟨k4,k5⟩
theorem iu{l:List GMonthBalance}(hn:(l.map (·.Month)).Nodup) {a:GMonthBalance}(ha:a∈l) (hb:b∈l) (h:a.Month=b.Month):a=b:=by
 obtain⟨i,hi,rfl⟩:=waa ha;obtain⟨j,hj,rfl⟩:=waa hb;have d:=Iab.1 hn;rcases Yad i j with c|c|c
 .have:=d i j (by simp[hi]) (by simp[hj]) c;simp only[aac]at this;exact absurd h this
 .subst c;rfl
 .have:=d j i (by simp[hj]) (by simp[hi]) c;simp only[aac]at this;exact absurd h.symm this
theorem tJ{c:GPayConfig}{l:List GMonthBalance}(hb:∀b∈l,BalB b) (hn:(l.map (·.Month)).Nodup):((Yl c to d S lim l).map (·.Month)).Nodup:=by
 unfold Yl;rw[uab,wad];refine⟨MG hn,xw hn,?_⟩;intro x hx y j e;obtain⟨q,hq,rfl⟩:=Paa.1 hx;obtain⟨p,i,rfl⟩:=Paa.1 j;obtain⟨b,f,g,-,-,b3,h,-⟩:=aw hq;obtain⟨a,a1,a2,-,-,a3,a4,-⟩:=Um i;have:=iu hn f a1 (by rw[←g,←a2,e]);subst this;obtain⟨d1,d2,d3,d4⟩:=hb b f;unfold Mh at h;unfold sh at a4;omega
theorem KK{c:GPayConfig}{l:List GMonthBalance}(hq:q∈Yl c to d S lim l):q.Date=d/\∃b∈l,PT b q:=by
 rcases Saa.1 hq with hq|hq
 .obtain⟨b,a,e,f,g,h,i,-⟩:=aw hq;exact⟨f,b,a,e,by omega,.inl ⟨g,h⟩⟩
 .obtain⟨b,a,e,f,g,h,i,-⟩:=Um hq;exact⟨f,b,a,e,h,.inr (.inl ⟨.inl g,i⟩)⟩
theorem rep_fit{l:List GMonthBalance}(hq:q∈(Bm 3 d (λ_=>false) lim l).1):q.Date=d/\∃b∈l,PT b q:=by
 obtain⟨b,a,c,e,f,g,h,-⟩:=Um hq;exact⟨e,b,a,c,g,.inr (.inl ⟨.inr f,h⟩)⟩
theorem jD{l:GLaw}(hl:LawOk l) (a:FewR l) {t:GAccount}(d:t.Household.Facts.length<=64) {c:GPayConfig}(hc:c.Calendar.Holidays.length<=1048576) (ht:AccOk l c t) (hf:0<=c.FirstMonth) (b:to<=3599) (h2:to<c.FirstMonth+120):BalL c t to (Ue l c t to rec):=by
 refine⟨bal_B hl a d hc ht hf b,?_,?_⟩
 .rw[OL];exact OD _ _
 .unfold Ue;rw[Waa,wac];omega
theorem vF{t:GAccount}(h1:t.Household.Facts.length<=1048576) (h2:t.Postings.length<=1048576) (h3:t.Appeals.length<=1048576):Gn t=some (t.Household.Facts,t.Postings,t.Appeals):=by
 unfold Gn ab La Pa ra za Da;rw[if_pos (by omega),if_pos (by omega),if_pos (by omega)];rfl
def DG(t:GAccount) (d:Int) (F:List GFact) (P:List GPosting) (A:List GAppeal) (m:Int):GAccount:=⟨⟨t.Household.Id,t.Household.Scope,t.Household.Members,F⟩,P,A,d,m⟩
section
variable {l:GLaw} {c:GPayConfig} {t:GAccount} {e:GEvent}
theorem c9(hl:LawOk l) (ht:AccOk l c t) (hd:t.Date<=e.Date/\e.Date<=109572) (h1:t.Household.Facts.length<=1048576):∃F n,Hn l t e t.Household.Facts=some (F,n)/\(n=0->F=t.Household.Facts++[e.Fact]/\e.Fact.Recorded=e.Date/\AccOk l c (DG t e.Date F t.Postings t.Appeals t.LastMonth)):=by
 unfold Hn;by_cases h:e.Fact.Recorded=e.Date
 case neg=>exact⟨_,_,by rw[if_pos h],λh=>by simp at h⟩
 rw[if_neg (saa.2 h),Kh (by simp only[qaa,Aaa];omega),kaa,Sc _ _ hl.ns];refine⟨_,_,rfl,λb=>⟨rfl,h,ht.cf,b,?_,ht.last,ht.led,ht.mon,ht.rL,ht.app,?_⟩⟩
 .have:=ht.date;simp only[DG];omega
 .obtain⟨g,i,j⟩:=Eo.1 ht.late;refine Eo.2 ⟨λf hf=>?_,λp d=>?_,λa ha=>?_⟩
  .simp only[DG]at hf⊢;rcases Saa.1 hf with hf|hf
   .have:=g f hf;omega
   .rw[oab.1 hf,h];exact aad _
  .have:=i p d;simp only[DG];omega
  .have:=j a ha;simp only[DG];omega
theorem book4{Q:List GPosting}(h1:P.length<=1048576) (h2:Q.length<=1048576):Jn P Q=some (if P.length+Q.length<=4096 then(P++Q,0)else(P,4)):=by
 unfold Jn;rw[wid (by omega) (by omega),Kh (by omega),kaa];by_cases h:P.length+Q.length<=4096
 .rw[if_pos h,if_neg (by omega)]
 .rw[if_neg h,if_pos (by omega)]
theorem book9{x:List GPosting×Int}(h1:P.length<=1048576) (h2:x.1.length<=1048576):Mn P x=some (if P.length+x.1.length<=4096 then(P++x.1,0)else(P,4)):=by
 unfold Mn;rw[wid (by omega) (by omega),Kh (by omega),kaa];by_cases h:P.length+x.1.length<=4096
 .rw[if_pos h,if_neg (by omega)]
 .rw[if_neg h,if_pos (by omega)]
theorem Uv(hc:0<=c.FirstMonth/\c.FirstMonth<=3599) (ht:AccOk l c t):t.LastMonth<=3599/\t.LastMonth<c.FirstMonth+120:=by
 rcases ht.last with h|h
 .omega
 .have:=h.N3 hc;omega
theorem ev_pay(hl:LawOk l) (g:FewR l) (hc:c.Calendar.Holidays.length<=1048576) (k:t.Household.Facts.length<=64) (ht:AccOk l c t) (hd:t.Date<=e.Date/\e.Date<=109572):∃P m n,Qj l c t e t.Household.Facts t.Postings t.Appeals=some (P,m,n)/\
 (n=0->m=e.Month/\Gq c e.Month/\t.LastMonth<=e.Month/\(∃lim S,ib t.Appeals=some S/\S.length<=3600/\mf (Kt (ku e.Month e.Date (Ue l c t e.Month e.Date))) c=some lim/\0<=lim/\P=t.Postings++Yl c e.Month e.Date S lim (Ue l c t e.Month e.Date))/\AccOk l c (DG t e.Date t.Household.Facts P t.Appeals e.Month)):=by
 obtain⟨hf,i⟩:=Sp ht.cf;have hp4:=ht.led.1;have ha4:=ht.rL;unfold Qj;rw[PC,kaa];by_cases a:Gq c e.Month
 case neg=>exact⟨_,_,_,by rw[decide_eq_false a,if_pos rfl],λh=>by simp at h⟩
 obtain⟨m1,m2,m3⟩:=a.N3 hf;rw[decide_eq_true a,if_neg (by simp)];by_cases ho:e.Month<t.LastMonth
 .exact⟨_,_,_,by rw[if_pos ho],λh=>by simp at h⟩
 rw[if_neg ho];have f:=jD hl g k hc ht (to:=e.Month) (rec:=e.Date) hf.1 m2 m3;have e1:ya l c (GAccount.mk (GHousehold.mk t.Household.Id t.Household.Scope t.Household.Members t.Household.Facts) t.Postings t.Appeals t.Date t.LastMonth) e.Month e.Date=some (Ue l c t e.Month e.Date):=by
  have:=Yo hl g k hc (t:=t) (by omega) (by omega) (to:=e.Month) hf.1 m3 e.Date;rw[if_neg (by omega)]at this;exact this
 rw[e1,kaa];obtain⟨S,s1,s2⟩:=RN (A:=t.Appeals) (by omega);obtain⟨lim,g1,g2,g3,g4⟩:=Pay_s i (λb hb=>(f.b b hb).1) f.len (S:=S) (by omega) e.Month e.Date;rw[s1,kaa,g4,kaa];obtain⟨Q,hQ⟩:∃Q,Q=Yl c e.Month e.Date S lim (Ue l c t e.Month e.Date):=⟨_,rfl⟩;rw[←hQ];have hQl:Q.length<=240:=by
  have h1:=wy (to:=e.Month) (d:=e.Date) (l:=Ue l c t e.Month e.Date);have h2:=Xt (kind:=2) (d:=e.Date) (om:=λm=>decide (m∈S)) (l:=Ue l c t e.Month e.Date) (rem:=lim);have h3:=f.len;rw[hQ,Yl,Faa];omega
 rw[book4 (by omega) (by omega),kaa];by_cases j:t.Postings.length+Q.length<=4096
 case neg=>exact⟨_,_,_,by rw[if_neg j],λh=>by simp at h⟩
 rw[if_pos j];refine⟨_,_,_,rfl,λ_=>⟨rfl,a,by omega,⟨lim,S,rfl,s2,g1,g2,by rw[hQ]⟩,?_⟩⟩;exact ht.T7 f hd (.inr ⟨a,by omega⟩) (λq hq=>KK (c:=c) (to:=e.Month) (S:=S) (lim:=lim) (by rw[←hQ];exact hq)) (by rw[hQ];exact tJ (λb hb=>(f.b b hb).1) f.nd) j
theorem AccOk.setA(ht:AccOk l c t) (hd:t.Date<=d/\d<=109572) (b:A.length<=16) (h2:∀i (h:i<A.length),Eu A[i]/\A[i].Id=(i:Int)) (e:∀a∈A,a.Filed<=d):AccOk l c (DG t d t.Household.Facts t.Postings A t.LastMonth):=by
 obtain⟨j,k,l3⟩:=Eo.1 ht.late;refine⟨ht.cf,ht.hv,?_,ht.last,ht.led,ht.mon,b,h2,Eo.2 ⟨λf hf=>?_,λp g=>?_,e⟩⟩
 .have:=ht.date;simp only[DG];omega
 .have:=j f hf;simp only[DG];omega
 .have:=k p g;simp only[DG];omega
theorem cV(hc:c.Calendar.Holidays.length<=1048576) (ht:AccOk l c t) (hd:t.Date<=e.Date/\e.Date<=109572):∃A n,Kn c e t.Appeals=some (A,n)/\(n=0->(∃a,A=t.Appeals++[a])/\AccOk l c (DG t e.Date t.Household.Facts t.Postings A t.LastMonth)):=by
 have ha:=ht.rL;unfold Kn;by_cases h:16<=(t.Appeals.length:Int)
 .exact⟨_,_,by rw[if_pos h],λh=>by simp at h⟩
 rw[if_neg h];obtain⟨r,j,k⟩:=File_s hc (t.Appeals.length:Int) e.Month e.ToMonth e.Date e.Notice;rw[j,kaa];by_cases b:r.2=0
 case neg=>exact⟨_,_,by rw[if_pos b],λh=>absurd h b⟩
 rw[if_neg (saa.2 b),Kh (by simp only[qaa,Aaa];omega),kaa];obtain⟨f,g,k3⟩:=k b;refine⟨_,_,rfl,λ_=>⟨⟨_,rfl⟩,ht.setA hd (by simp only[Faa,qaa,Aaa];omega) (λi hi=>?_) λa ha=>?_⟩⟩
 .rw[Faa,qaa,Aaa]at hi;rcases dac i t.Appeals.length with d|d
  .rw[Jac d];exact ht.app i d
  .obtain rfl:i=t.Appeals.length:=by omega
   rw[List.getElem_concat_length rfl];exact⟨f,g⟩
 .rcases Saa.1 ha with ha|ha
  .have:=(Eo.1 ht.late).2.2 a ha;omega
  .rw[oab.1 ha,k3];exact aad _
theorem dV(ht:AccOk l c t) (hd:t.Date<=e.Date/\e.Date<=109572):∃A n,Ln e t.Appeals=some (A,n)/\(n=0->A.length=t.Appeals.length/\t.Appeals≠[]/\AccOk l c (DG t e.Date t.Household.Facts t.Postings A t.LastMonth)):=by
 have ha:=ht.rL;unfold Ln;have hj:(if¬e.Appeal<0 then some (decide ((t.Appeals.length:Int)<=e.Appeal))else some true)=some (decide (e.Appeal<0\/(t.Appeals.length:Int)<=e.Appeal)):=by
  by_cases h:e.Appeal<0<;>simp[h]
 rw[hj,kaa];by_cases h:e.Appeal<0\/(t.Appeals.length:Int)<=e.Appeal
 .exact⟨_,_,by rw[decide_eq_true h,if_pos rfl],λh=>by simp at h⟩
 rw[decide_eq_false h,if_neg (by simp)];obtain⟨k,hk⟩:=Int.eq_ofNat_of_zero_le (show 0<=e.Appeal by omega);have b:k<t.Appeals.length:=by omega
 rw[hk,Ea b,kaa];obtain⟨r,o,p⟩:=IJ (ht.app k b).1 e.State e.Cents e.Date;rw[o,kaa];by_cases f:r.2=0
 case neg=>exact⟨_,_,by rw[if_pos f],λh=>absurd h f⟩
 rw[if_neg (saa.2 f),iA b,kaa];obtain⟨j,m,k3⟩:=p f;refine⟨_,_,rfl,λ_=>⟨by simp,λh=>by rw[h]at b;simp at b,ht.setA hd (by simp only[qad];omega) (λi hi=>?_) λa ha=>?_⟩⟩
 .rw[qad]at hi;rw[List.getElem_set];by_cases d:k=i
  .subst d;rw[if_pos rfl];exact⟨j,by rw[m];exact(ht.app k b).2⟩
  .rw[if_neg d];exact ht.app i hi
 .obtain⟨-,-,g⟩:=Eo.1 ht.late;rcases List.mem_or_eq_of_mem_set ha with ha|rfl
  .have:=g a ha;omega
  .rw[k3];have:=g _ (taa b);omega
theorem pZ(hl:LawOk l) (f:FewR l) (hc:c.Calendar.Holidays.length<=1048576) (i:t.Household.Facts.length<=64) (ht:AccOk l c t) (hd:t.Date<=e.Date/\e.Date<=109572):∃P n,fm l c t e t.Household.Facts t.Postings t.Appeals=some (P,n)/\
 (n=0->(∃Q,P=t.Postings++Q/\(∀q∈Q,q.Kind=3)/\Q.length<=(t.LastMonth+1-c.FirstMonth).toNat)/\AccOk l c (DG t e.Date t.Household.Facts P t.Appeals t.LastMonth)):=by
 obtain⟨hf,hfl⟩:=Sp ht.cf;have hp4:=ht.led.1;have ha4:=ht.rL;unfold fm;rw[orQ];by_cases h:e.Cents<1\/1000000000000000<e.Cents
 .exact⟨_,_,by rw[decide_eq_true h,if_pos rfl],λh=>by simp at h⟩
 rw[decide_eq_false h,if_neg (by simp)];obtain⟨m2,m3⟩:=Uv hf ht;have e1:ya l c (GAccount.mk (GHousehold.mk t.Household.Id t.Household.Scope t.Household.Members t.Household.Facts) t.Postings t.Appeals t.Date t.LastMonth) t.LastMonth e.Date=_:=Yo hl f i hc (t:=t) (by omega) (by omega) (to:=t.LastMonth) hf.1 m3 e.Date;rw[e1,kaa];by_cases hm:t.LastMonth<c.FirstMonth\/3599<t.LastMonth
 .rw[if_pos hm,lR (by simp) (by simp) (by omega),kaa];refine⟨_,_,by rw[if_pos (by simp only[Bm];omega)],λh=>by simp at h⟩
 rw[if_neg hm];have a:=jD hl f i hc ht (to:=t.LastMonth) (rec:=e.Date) hf.1 m2 m3;rw[lR (λb hb=>(a.b b hb).1) a.len (by omega),kaa];split
 .exact⟨_,_,rfl,λh=>by simp at h⟩
 have hdl:=Xt (kind:=3) (d:=e.Date) (om:=λ_=>false) (l:=Ue l c t t.LastMonth e.Date) (rem:=e.Cents);have hbl:=a.len;rw[book9 (by omega) (by simp only;omega),kaa];by_cases g:t.Postings.length+(Bm 3 e.Date (λ_=>false) e.Cents (Ue l c t t.LastMonth e.Date)).1.length<=4096
 case neg=>exact⟨_,_,by rw[if_neg g],λh=>by simp at h⟩
 rw[if_pos g];refine⟨_,_,rfl,λ_=>⟨⟨_,rfl,λq hq=>?_,?_⟩,?_⟩⟩
 .obtain⟨b,-,-,-,j,-⟩:=Um hq;exact j
 .have:(Ue l c t t.LastMonth e.Date).length=(t.LastMonth+1-c.FirstMonth).toNat:=by unfold Ue;rw[Waa,wac]
  simp only;omega
 .exact ht.T7 a hd (.inl rfl) (λq hq=>rep_fit hq) (xw a.nd) g
end
theorem book12{e:GEvent}(h1:P.length<=1048576):gm e P=some (if P.length+1<=4096 then(P++[⟨e.Date,e.Month,4,e.Cents⟩],0)else(P,4)):=by
 unfold gm
 first
  |rw[wid (by simp only[qaa,Aaa];omega) (by simp only[qaa,Aaa];omega),Kh (by simp only[qaa,Aaa];omega),kaa]
  |rw[wid (by omega) (by omega),Kh (by simp only[qaa,Aaa];omega),kaa]
 by_cases h:P.length+1<=4096
 .rw[if_pos h,if_neg (by omega)]
 .rw[if_neg h,if_pos (by omega)]
theorem indexB{l:List GMonthBalance}(hl:l.length<=1048576) (e:GEvent):ua l (λx=>Ib x e)=some (match ff (λi=>if(l[i]?.any λb=>b.Month==e.Month)=true then some (i:Int)else none) l.length with|some v=>v|none=>-1):=by
 unfold ua;have:ea (jb l λx=>Ib x e) 0=some (fi () (ff (λi=>if(l[i]?.any λb=>b.Month==e.Month)=true then some (i:Int)else none) l.length)):=
  QZ (l:=l) (p:=λx=>Ib x e) (λb=>b.Month==e.Month) (λx _=>rfl) (by omega)
 rw[this,kaa];cases ff (λi=>if(l[i]?.any λb=>b.Month==e.Month)=true then some (i:Int)else none) l.length<;>rfl
section
variable {l:GLaw} {c:GPayConfig} {t:GAccount} {e:GEvent}
theorem qZ(hl:LawOk l) (a:FewR l) (hc:c.Calendar.Holidays.length<=1048576) (p:t.Household.Facts.length<=64) (ht:AccOk l c t) (hd:t.Date<=e.Date/\e.Date<=109572):∃P n,im l c t e t.Household.Facts t.Postings t.Appeals=some (P,n)/\
 (n=0->(∃q,P=t.Postings++[q]/\q.Kind=4)/\AccOk l c (DG t e.Date t.Household.Facts P t.Appeals t.LastMonth)):=by
 obtain⟨hf,hfl⟩:=Sp ht.cf;have hp4:=ht.led.1;have ha4:=ht.rL;unfold im;rw[orQ];by_cases h:e.Cents<1\/1000000000000000<e.Cents
 .exact⟨_,_,by rw[decide_eq_true h,if_pos rfl],λh=>by simp at h⟩
 rw[decide_eq_false h,if_neg (by simp)];obtain⟨m2,m3⟩:=Uv hf ht;have e1:ya l c (GAccount.mk (GHousehold.mk t.Household.Id t.Household.Scope t.Household.Members t.Household.Facts) t.Postings t.Appeals t.Date t.LastMonth) t.LastMonth e.Date=_:=Yo hl a p hc (t:=t) (by omega) (by omega) (to:=t.LastMonth) hf.1 m3 e.Date;rw[e1,kaa];by_cases hm:t.LastMonth<c.FirstMonth\/3599<t.LastMonth
 .rw[if_pos hm,indexB (by simp),kaa];exact⟨_,_,by rw[if_pos (by simp[ff])],λh=>by simp at h⟩
 rw[if_neg hm];have g:=jD hl a p hc ht (to:=t.LastMonth) (rec:=e.Date) hf.1 m2 m3;generalize hbl:Ue l c t t.LastMonth e.Date=B at g⊢;have hlen:=g.len;rw[indexB (by omega),kaa]
 cases k:ff (λi=>if(B[i]?.any λb=>b.Month==e.Month)=true then some (i:Int)else none) B.length with
 |none=>exact⟨_,_,by rw[if_pos (by simp)],λh=>by simp at h⟩
 |some v=>
  obtain⟨i,j,f,-⟩:=vb.1 k;rw[naa j]at f;simp only[uad,beq_iff_eq]at f;split at f
  case isFalse=>cases f
  rename_i d;obtain rfl:=Iaa f;dsimp only;rw[if_neg (by omega),Ea j,kaa];obtain⟨r,k2,k3,k4,k5⟩:=g.b _ (taa j);rw[HG r,kaa];by_cases o:sh B[i]<e.Cents
  .exact⟨_,_,by rw[if_pos o],λh=>by simp at h⟩
  rw[if_neg o,book12 (by omega),kaa];by_cases m:t.Postings.length+1<=4096
  case neg=>exact⟨_,_,by rw[if_neg m],λh=>by simp at h⟩
  rw[if_pos m];refine⟨_,_,rfl,λ_=>⟨⟨_,rfl,rfl⟩,?_⟩⟩;refine ht.T7 g hd (.inl rfl) (λq hq=>?_) (by simp) (by simpa using m);obtain rfl:=oab.1 hq;exact⟨rfl,B[i],taa j,d.symm,by simp only;omega,.inr (.inr ⟨rfl,by simp only;omega⟩)⟩
inductive EvR (l:GLaw) (c:GPayConfig) (t:GAccount) (e:GEvent):List GFact->List GPosting->List GAppeal->Int->Prop
 |fact (hk:e.Kind=1) (hr:e.Fact.Recorded=e.Date):EvR l c t e (t.Household.Facts++[e.Fact]) t.Postings t.Appeals t.LastMonth
 |pay (hk:e.Kind=2) (lim:Int) (S:List Int) (hm:Gq c e.Month/\t.LastMonth<=e.Month) (hS:ib t.Appeals=some S/\S.length<=3600) (hlim:mf (Kt (ku e.Month e.Date (Ue l c t e.Month e.Date))) c=some lim/\0<=lim) :
  EvR l c t e t.Household.Facts (t.Postings++Yl c e.Month e.Date S lim (Ue l c t e.Month e.Date)) t.Appeals e.Month
 |appeal (hk:e.Kind=3) (a:GAppeal):EvR l c t e t.Household.Facts t.Postings (t.Appeals++[a]) t.LastMonth
 |decide (hk:e.Kind=4) (A:List GAppeal) (hA:A.length=t.Appeals.length/\t.Appeals≠[]):EvR l c t e t.Household.Facts t.Postings A t.LastMonth
 |repay (hk:e.Kind=5) (Q:List GPosting) (hQ:(∀q∈Q,q.Kind=3)/\Q.length<=(t.LastMonth+1-c.FirstMonth).toNat):EvR l c t e t.Household.Facts (t.Postings++Q) t.Appeals t.LastMonth
 |waive (hk:e.Kind=6) (q:GPosting) (hq:q.Kind=4):EvR l c t e t.Household.Facts (t.Postings++[q]) t.Appeals t.LastMonth
theorem eR(hl:LawOk l) (i:FewR l) (hc:c.Calendar.Holidays.length<=1048576) (p:t.Household.Facts.length<=64) (h2:t.Postings.length<=1048576) (v:t.Appeals.length<=1048576) :
 ∃r,Qb l c t e=some r/\((r.2≠0/\r.1=t)\/(r.2=0/\AccOk l c t/\(t.Date<=e.Date/\e.Date<=109572)/\∃F P A m,r.1=DG t e.Date F P A m/\EvR l c t e F P A m/\AccOk l c r.1)):=by
 obtain⟨n,z,B⟩:=Vf hl hc (t:=t) (by omega) h2 v;unfold Qb;rw[z,kaa];by_cases j:n=0
 case neg=>exact⟨_,by rw[if_pos j],.inl ⟨by simp,rfl⟩⟩
 have ht:=B.1 j;rw[if_neg (saa.2 j),bB,kaa];by_cases hd:0<=e.Date/\e.Date<=109572
 case neg=>exact⟨_,by rw[decide_eq_false hd,if_pos rfl],.inl ⟨by simp,rfl⟩⟩
 rw[decide_eq_true hd,if_neg (by simp)];by_cases ho:e.Date<t.Date
 .exact⟨_,by rw[if_pos ho],.inl ⟨by simp,rfl⟩⟩
 have b:t.Date<=e.Date/\e.Date<=109572:=by omega
 rw[if_neg ho,vF (by omega) h2 v,kaa];dsimp only;have fin:∀(o:Option (List GFact×List GPosting×List GAppeal×Int×Int)),(∃F P A m k,o=some (F,P,A,m,k)/\(k=0->EvR l c t e F P A m/\AccOk l c (DG t e.Date F P A m)))->
  ∃r,(laa o λx=>if¬x.2.2.2.2=0 then some (t,x.2.2.2.2)else some (GAccount.mk (GHousehold.mk t.Household.Id t.Household.Scope t.Household.Members x.1) x.2.1 x.2.2.1 e.Date x.2.2.2.1,0))=some r/\((r.2≠0/\r.1=t)\/(r.2=0/\AccOk l c t/\(t.Date<=e.Date/\e.Date<=109572)/\∃F P A m,r.1=DG t e.Date F P A m/\EvR l c t e F P A m/\AccOk l c r.1)):=by
  rintro o ⟨F,P,A,m,k,rfl,hk⟩;rw[kaa];by_cases h:k=0
  .rw[if_neg (saa.2 h)];obtain⟨g1,g2⟩:=hk h;exact⟨_,rfl,.inr ⟨rfl,ht,b,F,P,A,m,rfl,g1,g2⟩⟩
  .rw[if_pos h];exact⟨_,rfl,.inl ⟨h,rfl⟩⟩
 refine fin _ ?_;by_cases s:e.Kind=1
 .rw[if_pos s];obtain⟨F,k,a1,a2⟩:=c9 (e:=e) hl ht b (by omega);rw[a1];exact⟨F,_,_,_,k,rfl,λh=>by obtain⟨d,f,g⟩:=a2 h;exact⟨by rw[d];exact .fact s f,g⟩⟩
 rw[if_neg s];by_cases u:e.Kind=2
 .rw[if_pos u];obtain⟨P,m,k,a1,a2⟩:=ev_pay (e:=e) hl i hc p ht b;rw[a1];exact⟨_,P,_,m,k,rfl,λh=>by
   obtain⟨d,f,g,⟨lim,S,s1,s2,C,D,E⟩,y⟩:=a2 h;rw[d];exact⟨by rw[E];exact .pay u lim S ⟨f,g⟩ ⟨s1,s2⟩ ⟨C,D⟩,y⟩⟩
 rw[if_neg u];by_cases k3:e.Kind=3
 .rw[if_pos k3];obtain⟨A,k,a1,a2⟩:=cV (e:=e) hc ht b;rw[a1];exact⟨_,_,A,_,k,rfl,λh=>by obtain⟨⟨a,d⟩,f⟩:=a2 h;exact⟨by rw[d];exact .appeal k3 a,f⟩⟩
 rw[if_neg k3];by_cases k4:e.Kind=4
 .rw[if_pos k4];obtain⟨A,k,a1,a2⟩:=dV (e:=e) ht b;rw[a1];exact⟨_,_,A,_,k,rfl,λh=>by obtain⟨w,d,f⟩:=a2 h;exact⟨.decide k4 A ⟨w,d⟩,f⟩⟩
 rw[if_neg k4];by_cases k5:e.Kind=5
 .rw[if_pos k5];obtain⟨P,k,a1,a2⟩:=pZ (e:=e) hl i hc p ht b;rw[a1];exact⟨_,P,_,_,k,rfl,λh=>by obtain⟨⟨Q,d,f⟩,g⟩:=a2 h;exact⟨by rw[d];exact .repay k5 Q f,g⟩⟩
 rw[if_neg k5];by_cases k6:e.Kind=6
 .rw[if_pos k6];obtain⟨P,k,a1,a2⟩:=qZ (e:=e) hl i hc p ht b;rw[a1];exact⟨_,P,_,_,k,rfl,λh=>by obtain⟨⟨q,d,f⟩,g⟩:=a2 h;exact⟨by rw[d];exact .waive k6 q f,g⟩⟩
 rw[if_neg k6];exact⟨_,_,_,_,1,rfl,λh=>by simp at h⟩
end
theorem np{l:List GPosting}(hl:l.length<=1048576):Cj l l=some true:=by
 unfold Cj;rw[if_neg (by simp)];have:ea (Ak l l) 0=some (.inl ()):=by
  refine Od (λi=>(i:Int)) l.length _ (λi hi=>?_) ?_ rfl
  .unfold Ak;rw[if_pos (by omega),kaa,decide_eq_true (by omega),if_pos (rfl:true=true),Ea hi,kaa,kaa,if_neg (by simp),va (by omega)]
  .simp[Ak]
 rw[this];rfl
theorem GB{l:List GAppeal}(hl:l.length<=1048576):rq l l=some true:=by
 unfold rq;rw[if_neg (by simp)];have:ea (Nl l l) 0=some (.inl ()):=by
  refine Od (λi=>(i:Int)) l.length _ (λi hi=>?_) ?_ rfl
  .unfold Nl;rw[if_pos (by omega),kaa,decide_eq_true (by omega),if_pos (rfl:true=true),Ea hi,kaa,kaa,if_neg (by simp),va (by omega)]
  .simp[Nl]
 rw[this];rfl
theorem FB{t:GAccount}(a:t.Household.Facts.length<=1048576) (h2:t.Postings.length<=1048576) (b:t.Appeals.length<=1048576):qq t t=some true:=by
 unfold qq sq;rw[pE a,np h2,GB b];simp
theorem CW(c:GPayConfig) (m:Int):∃b,js c m=some b:=by
 unfold js;split
 .split<;>exact⟨_,rfl⟩
 .exact⟨_,rfl⟩
theorem small_s{l:GLaw}{c:GPayConfig}{t:GAccount}:∃b,ts l c t=some b/\(b=true->SmallL l/\c.Calendar.Holidays.length<=70/\t.Household.Facts.length<=64/\t.Postings.length<=200/\t.Appeals.length<=20):=by
 unfold ts Hh Mg wb;obtain⟨b,hb,d⟩:=bt l;rw[hb]
 cases b with
 |false=>exact⟨false,rfl,λh=>by cases h⟩
 |true=>
  by_cases hc:(c.Calendar.Holidays.length:Int)<=70
  case neg=>exact⟨false,by simp[hc],λh=>by cases h⟩
  by_cases a:(t.Household.Facts.length:Int)<=40
  case neg=>exact⟨false,by simp[hc,a],λh=>by cases h⟩
  by_cases e:(t.Postings.length:Int)<=200
  case neg=>exact⟨false,by simp[hc,a,e],λh=>by cases h⟩
  by_cases ha:(t.Appeals.length:Int)<=20
  case neg=>exact⟨false,by simp[hc,a,e,ha],λh=>by cases h⟩
  exact⟨true,by simp[hc,a,e,ha],λ_=>⟨d rfl,by omega,by omega,by omega,by omega⟩⟩
theorem EvR.lens{l:GLaw}{c:GPayConfig}{t:GAccount}{e:GEvent}{F:List GFact}(h:EvR l c t e F P A m):F.length<=t.Household.Facts.length+1/\A.length<=t.Appeals.length+1:=by
 cases h<;>simp_all
def iL:GEnv:=⟨0,[⟨3,0,500⟩],[⟨0,0,0⟩],[],[],[]⟩
theorem xT:Tc 0=(⟨0,31⟩,0):=by kernel_rfl
theorem tin_as1:lC [Xb] (-1) 0 0 9=(⟨3,0,500⟩,true):=by
 rcases(lF (l:=[Xb]) (by simp) (-1) 0 0 9).2 with⟨-,e⟩|⟨f,h,e,-⟩
 .have:=e Xb (by simp);exact absurd this (by decide)
 .rw[oab]at h;rw[e,h];rfl
theorem aD:Rr Yb Og (xb [Xb]) 0 9=(⟨0,[⟨3,0,500⟩],[]⟩,0):=by
 have hm:Ko (xb [Xb]) 0 9=[]:=by
  unfold Ko;rw[show(min (max (xb [Xb]).Members 0) 8).toNat=0 from rfl];rfl
 grind[Rr,uo,Og,xb,tin_as1]
theorem P5:Ql [GNode.mk 7 0] iL=some (⟨3,0,500⟩,0):=by
 have hw:Wst [GNode.mk 7 0]:=nL (by kernel_rfl);have hN:∀n∈[GNode.mk 7 0],Kd n:=by simp[Kd]
 have he:EnvOk iL:=⟨by simp[iL],by simp[iL]⟩;have ha:Am [GNode.mk 7 0] 0=0:=by decide
 rw[(gR hN he hw).1];show some (yE [GNode.mk 7 0] iL 0)=_;rw[(O1 hw hN he 0 (by decide)).q];unfold Z8 jC;rw[if_neg (by decide),ha];show some ((zj ⟨7,0⟩ [] iL).getD (⟨0,0,0⟩,0))=_;unfold zj;rw[TI,Xn,Fz,SX (by simp)];rfl
theorem tin_sel:Ug Og iL (-1) 0=some (0,qX):=by
 unfold Ug;rw[Zt (by decide),kaa,show CT Og 0 iL.Date=([0],[-1],[0]) by kernel_rfl];(try dsimp only);rw[show py 1 false (([0]:List Int).length:Int) (([0]:List Int).length:Int)=some [false] by rfl,kaa,Jc (s':=([true],1)) rfl,Va (b:=[true]) rfl,kaa];(try dsimp only);rw[Xu,kaa,show AW [-1] [0] [true]=0 by kernel_rfl];rfl
theorem NW:Ra Og ⟨0,[⟨3,0,500⟩],[],[],[],[]⟩ (-1) [true]=some (([0],qX),⟨0,[⟨3,0,500⟩],[⟨3,0,500⟩],[],[],[]⟩):=by
 unfold Ra;rw[show py 24 (GValue.mk 0 0 0) (Og.Defs.length:Int) (Og.Defs.length:Int)=some [⟨0,0,0⟩] by rfl,kaa,show py 8 (0:Int) (Og.Defs.length:Int) (Og.Defs.length:Int)=some [0] by rfl,kaa,Up (Xo.s Og (by simp[Yb])).2.1,kaa,show wv (Np Og)=([0],0) by kernel_rfl];rw[Jc (s':=([⟨3,0,500⟩],[0],1)) (by
  unfold Je;(try dsimp only);rw[if_pos (by decide),show idx ([0]:List Int) 0=some 0 by rfl,kaa,show idx [true] 0=some true by rfl,kaa,if_neg (by decide)];rw[show GEnv.mk 0 [⟨3,0,500⟩] [⟨0,0,0⟩] [] [] []=iL from rfl,tin_sel,kaa,if_neg (by decide),if_neg (by decide),if_neg (by decide),show idx Og.Rules 0=some kO by rfl,kaa,show kO.Value=[GNode.mk 7 0]from rfl,P5];rfl),Va (b:=([⟨3,0,500⟩],[0])) rfl]
 rfl
theorem wT:fe Yb 0 ⟨0,[⟨3,0,500⟩],[]⟩ 0=some (⟨3,0,500⟩,0,qX):=by
 obtain⟨j,g⟩:=XA (l:=Yb) (h:=xb [Xb]) (by rw[TB]);have e:j=0:=by have:=g.sc;grind[xb]
 subst e;have f:(xp Yb).Code=0:=by rw[qA]
 have a:=(yR Xo f g (d:=0) (r:=9) (def_:=0) (by grind[Yb,aD]) (by simp[Yb,Og])).1;rw[show Yb.Scopes[0]=Og from rfl,aD]at a;have c:∀x∈Yb.Scopes,x.Rules.length<=64:=by simp[Yb,Og]
 dsimp only at a;refine(YE Xo (xH f) c (i:=0) (by decide) (d:=0) (by simp[Yb,Og]) a).trans ?_;rw[show LS Yb 0 (by decide) 0=⟨Og,⟨ByteArray.mk #[],0,[],[],[]⟩,[true],[]⟩ by kernel_rfl];unfold Tg;rw[Va (b:=[]) rfl,kaa];(try dsimp only);rw[Va (b:=([],[])) rfl,kaa];(try dsimp only);rw[show Ra Og ⟨0,[⟨3,0,500⟩],[],[],[],Yb.Tables⟩ (-1) [true]=_ from NW];rfl
theorem tin_cd{l:List GFact}(h:l=[]\/l=[Xb]):yO Yb (xb l) 9=[]:=by
 rcases h with rfl|rfl<;>kernel_rfl
theorem uT:fv Yb (xb [Xb]) Pb 0 9=⟨0,500,0⟩:=by
 have b:ie Yb 0 (xb [Xb]) 0 9 0=(⟨3,0,500⟩,0):=by
  unfold ie;rw[show Yb.Scopes[0]?=some Og from rfl];(try dsimp only);rw[aD,if_neg (by decide)];(try dsimp only);rw[show((0:Nat):Int)=0 from rfl,wT];rfl
 have a:oQ Yb (xb [Xb]) 0 9=[⟨0,31⟩]:=by unfold oQ;rw[tin_cd (.inr rfl),xT];rfl
 unfold fv;rw[xT,if_neg (by decide),lO TB,Nab,if_neg (by decide),a];unfold zA Av;simp only[qaa,Aaa,ff,Yaa,vaa,gab];rw[show(xb [Xb]).Scope.toNat=0 from rfl,show Pb.Def=0 from rfl,b];rfl
theorem vT:Ue Yb Pb ⟨xb [Xb],[],[],0,-1⟩ 0 9=[Pg [] ⟨0,500,0⟩]:=by
 unfold Ue;rw[show((0:Int)+1-Pb.FirstMonth).toNat=1 from rfl];simp only[tae,vaa,gab];rw[show Pb.FirstMonth+((0:Nat):Int)=0 from rfl,uT];rfl
theorem tin_new:Cf (xb [Xb])=some ⟨xb [Xb],[],[],0,-1⟩:=by
 unfold Cf ra;rw[if_pos (by simp[xb]),kaa];(try dsimp only);rw[Jc (s':=(0,1)) rfl,Va (b:=0) rfl];rfl
theorem SE:AccOk Yb Pb ⟨xb [Xb],[],[],0,-1⟩:=by
 refine⟨?_,by rw[TB],by simp,.inl rfl,⟨by simp,λi h=>by simp at h⟩,by simp,by simp,λi h=>by simp at h,Eo.2 ⟨by simp[xb,Xb],by simp,by simp⟩⟩;unfold Fa;rw[ik Xo,qA,mO];rfl
theorem AT:Ae Yb Pb ⟨xb [Xb],[],[],0,-1⟩=some 0:=by
 obtain⟨n,a,b⟩:=Vf Xo (c:=Pb) (by simp[Pb]) (t:=⟨xb [Xb],[],[],0,-1⟩) (by simp[xb]) (by simp) (by simp);rw[a,b.2 SE]
theorem tin_pay(x:GFact):Qb Yb Pb ⟨xb [Xb],[],[],0,-1⟩ ⟨2,9,0,0,0,0,0,0,x⟩=some (⟨xb [Xb],[⟨9,0,1,500⟩],[],9,0⟩,0):=by
 unfold Qb;rw[AT,kaa,if_neg (by simp),bB,kaa,decide_eq_true (by simp),if_neg (by simp),if_neg (by simp),vF (by simp[xb]) (by simp) (by simp),kaa];(try dsimp only);rw[if_neg (by simp),if_pos rfl];unfold Qj;rw[PC,kaa,decide_eq_true (show Gq Pb 0 by decide),if_neg (by simp),if_neg (by simp)];have e1:=Yo Xo SB (t:=⟨xb [Xb],[],[],0,-1⟩) (by simp[xb]) (c:=Pb) (by simp[Pb]) (by simp) (by simp) (to:=0) (by simp[Pb]) (by simp[Pb]) 9;rw[if_neg (by simp[Pb]),vT]at e1;have e2:ya Yb Pb (GAccount.mk (GHousehold.mk 0 0 0 [Xb]) [] [] 0 (-1)) 0 9=_:=e1;obtain⟨S,s1,s2⟩:=RN (A:=[]) (by simp);have a:∀b∈[Pg [] (⟨0,500,0⟩:GAward)],BalB b:=by
  have:=jD Xo SB (t:=⟨xb [Xb],[],[],0,-1⟩) (by simp[xb]) (c:=Pb) (by simp[Pb]) SE (to:=0) (rec:=9) (by simp[Pb]) (by simp) (by simp[Pb]);rw[vT]at this;exact λb hb=>(this.b b hb).1
 obtain⟨lim,g1,g2,g3,g4⟩:=Pay_s (c:=Pb) (by simp[Pb]) a (by simp) (S:=S) (by omega) 0 9;simp only[xb,kaa,e2,s1,g4];have hQ:Yl Pb 0 9 S lim [Pg [] ⟨0,500,0⟩]=[⟨9,0,1,500⟩]:=by
  unfold Yl;rw[show ku 0 9 [Pg [] ⟨0,500,0⟩]=[⟨9,0,1,500⟩] by kernel_rfl];unfold Bm;have ho:sh (Pg [] ⟨0,500,0⟩)<=0:=by decide
  split<;>simp[ho,Bm]
 rw[hQ,book4 (by simp) (by simp)];rfl
theorem tin_arg(x:GFact):∃r,Qb Yb Pb ⟨xb [Xb],[],[],0,-1⟩ ⟨0,9,0,0,0,0,0,0,x⟩=some (r,1):=by
 unfold Qb;rw[AT,kaa,if_neg (by simp),bB,kaa,decide_eq_true (by simp),if_neg (by simp),if_neg (by simp),vF (by simp[xb]) (by simp) (by simp),kaa];exact⟨_,rfl⟩
theorem OH:Ik=some true:=by
 unfold Ik;rw[show jo [GNode.mk 7 0]=some Yb from rfl,kaa,show GHousehold.mk 0 0 0 [GFact.mk 0 (-1) 0 (GValue.mk 3 0 500) (GDateRange.mk 0 109573) 0]=xb [Xb]from rfl,tin_new,kaa];obtain⟨r,hr⟩:=tin_arg (GFact.mk 0 0 0 (GValue.mk 0 0 0) (GDateRange.mk 0 0) 0);rw[show GPayConfig.mk 0 0 1 0 0 0 0 (GCalendar.mk 0 [])=Pb from rfl,tin_pay,kaa,hr,kaa];(try dsimp only);rw[if_pos rfl,if_pos rfl,if_pos rfl,np (by simp)];rfl
theorem cL{f:GPosting->Int}{N:Int}:∀{Q:List GPosting},(∀q∈Q,0<=f q/\f q<=N)->0<=(Q.map f).sum/\(Q.map f).sum<=N*(Q.length:Int)
 |[],_=>by simp
 |q::Q,h=>by
  have ih:=cL (f:=f) (N:=N) (Q:=Q) λx hx=>h x (by simp[hx]);have:=h q (by simp);simp only[vaa,zab,qaa];rw[show N*((Q.length+1:Nat):Int)=N*(Q.length:Int)+N by rw[Int.natCast_add,Int.mul_add];omega];omega
def c1(q:GPosting):Int:=if q.Kind=1 then q.Cents else 0
def c2(q:GPosting):Int:=if q.Kind=1 then 0 else q.Cents
theorem stay_no(h:q.Month∉S) (hl:S.length<=3600):ea (Ke S q) 0=some (.inl ()):=by
 refine Od (λi=>(i:Int)) S.length _ (λi hi=>?_) ?_ rfl
 .unfold Ke;rw[if_pos (by omega),Ea hi,kaa,if_neg (λe=>h (by rw[←e];exact taa hi)),va (by omega)]
 .simp[Ke]
theorem XV{a:GAccount×Int}{Q:List GPosting}(hx:a.1.Postings=P++Q) (hS:S.length<=3600) (hb:∀q∈Q,0<=q.Cents/\q.Cents<=1000000000000000) (hm:∀q∈Q,q.Kind≠1->q.Month∉S) (hQ:Q.length<=240) (hP:P.length<=1048576) :
 ea (Me a S) (0,0,(P.length:Int))=some (.inl ((Q.map c1).sum,(Q.map c2).sum)):=by
 refine Od (λi=>(((Q.take i).map c1).sum,((Q.take i).map c2).sum,((P.length+i:Nat):Int))) Q.length _ (λi hi=>?_) ?_ (by simp)
 .have hq:=hb _ (taa hi);have ha:=cL (f:=c1) (N:=1000000000000000) (Q:=Q.take i) λq h=>by unfold c1;have:=hb q (Mab h);split<;>omega
  have hc:=cL (f:=c2) (N:=1000000000000000) (Q:=Q.take i) λq h=>by unfold c2;have:=hb q (Mab h);split<;>omega
  rw[iab]at ha hc;have b:∀h,(P++Q)[P.length+i]'h=Q[i]:=λh=>by rw[Pad (by omega)];simp
  have t1:((Q.take (i+1)).map c1).sum=((Q.take i).map c1).sum+c1 Q[i]:=by rw[←nad hi];simp only[uab,sad,vaa,gab,zab,kae,Zac]
  have t2:((Q.take (i+1)).map c2).sum=((Q.take i).map c2).sum+c2 Q[i]:=by rw[←nad hi];simp only[uab,sad,vaa,gab,zab,kae,Zac]
  unfold Me;(try dsimp only);rw[hx,if_pos (by rw[Faa];omega),Ea (by rw[Faa];omega),kaa,b,t1,t2];by_cases hk:Q[i].Kind=1
  .rw[if_pos hk,kaa,show c1 Q[i]=Q[i].Cents from if_pos hk,show c2 Q[i]=0 from if_pos hk];(try dsimp only);rw[wid (by omega) (by omega),va (by omega),Zac];rfl
  .rw[if_neg hk,stay_no (hm _ (taa hi) hk) hS];(try dsimp only);rw[kaa,show c1 Q[i]=0 from if_neg hk,show c2 Q[i]=Q[i].Cents from if_neg hk];(try dsimp only);rw[wid (by omega) (by omega),va (by omega),Zac];rfl
 .unfold Me;(try dsimp only);rw[hx,if_neg (by rw[Faa];omega),aab]
theorem sum_c{Q:List GPosting}(h:∀q∈Q,f q=q.Cents):(Q.map f).sum=Kt Q:=by
 unfold Kt;rw[Hab h]
theorem r5{f:GPosting->Int}:∀{Q:List GPosting},(∀q∈Q,f q=0)->(Q.map f).sum=0
 |[],_=>rfl
 |q::Q,h=>by
  rw[vaa,zab,h q (by simp),r5 λx hx=>h x (by simp[hx])];rfl
section
variable {l:GLaw} {c:GPayConfig} {t:GAccount} {to d lim:Int} {S:List Int}
theorem pay_arr(hP:t'.Postings=t.Postings++Yl c to d S lim (Ue l c t to d)) (r:t'.Household=t.Household) (hA:t'.Appeals=t.Appeals) (i:BalL c t to (Ue l c t to d)) (m:BalL c t' to (Ue l c t' to d)) (k:GMonthBalance) (hb:k∈Ue l c t' to d):Mh k=0:=by
 obtain⟨p,o,k3,k4,k5⟩:=m.b k hb;have g:=hb;unfold Ue at g;obtain⟨j,hj,rfl⟩:=Paa.1 g;rw[r,hA]at p o k3 k4 k5⊢;obtain⟨w,hw⟩:∃w,w=Xz t.Appeals (fv l t.Household c (c.FirstMonth+(j:Int)) d):=⟨_,rfl⟩;rw[←hw]at p o k3 k4 k5⊢;have hm:Pg t.Postings w∈Ue l c t to d:=by
  unfold Ue;exact Paa.2 ⟨j,hj,by rw[hw]⟩
 obtain⟨e1,e2,e3,e4,e5⟩:=i.b _ hm;unfold Mh;by_cases hc:w.Code=0
 case neg=>
  have:(Pg t'.Postings w).Due=(Pg t'.Postings w).Received:=by unfold Pg;dsimp only;rw[if_neg hc]
  omega
 have g1:(Pg t'.Postings w).Due=(Pg t.Postings w).Due:=by unfold Pg;dsimp only;rw[if_pos hc,if_pos hc]
 have g2:(Pg t'.Postings w).Month=(Pg t.Postings w).Month:=rfl;obtain⟨b,n⟩:∃b,b=Pg t.Postings w:=⟨_,rfl⟩;rw[←n]at hm e1 e2 e3 e4 e5 g1 g2;have hsum:pc uq b.Month t'.Postings=b.Received+pc uq b.Month (Yl c to d S lim (Ue l c t to d)):=by rw[hP,vn,e2]
 rw[g2]at o;have h:=tJ (c:=c) (to:=to) (d:=d) (S:=S) (lim:=lim) (λb hb=>(i.b b hb).1) i.nd;obtain⟨r1,r2,r3,-⟩:=e1;by_cases ha:0<Mh b
 .have hq:(⟨d,b.Month,1,Mh b⟩:GPosting)∈Yl c to d S lim (Ue l c t to d):=List.mem_append_left _ (iac.2 ⟨b,hm,by rw[if_pos ⟨e5,ha⟩]⟩);have:=gw (f:=uq) h hq;rw[show uq ⟨d,b.Month,1,Mh b⟩=Mh b from if_pos rfl]at this;dsimp only at this;unfold Mh at ha this;omega
 .unfold Mh at ha;rcases aL (f:=uq) h b.Month with e|⟨q,q1,s,q3⟩
  .omega
  .obtain⟨-,a,a1,a2,a3,a4⟩:=KK q1;have:=iu i.nd a1 hm (by rw[←a2,s]);subst this;rcases a4 with⟨a5,a6⟩|⟨a5,a6⟩|⟨a5,a6⟩
   .unfold Mh at a6;omega
   .have s1:uq q = -q.Cents:=by unfold uq;rw[if_neg (by omega),if_pos a5]
    unfold sh at a6;omega
   .have s1:uq q=0:=by unfold uq;rw[if_neg (by omega),if_neg (by omega)]
    omega
theorem YX(hb:∀b∈B,BalB b/\Mh b=0) (hl:B.length<=120):ea (Oe B) 0=some (.inl ()):=by
 refine Od (λi=>(i:Int)) B.length _ (λi hi=>?_) ?_ rfl
 .obtain⟨a,h2⟩:=hb _ (taa hi);unfold Oe;rw[if_pos (by omega),Ea hi,kaa,qR a,kaa,h2,if_neg (by simp),va (by omega)]
 .simp[Oe]
end
theorem Dx(C:Ik=some true) {l:GLaw}(O:iR l) (H:vI l) (c:GPayConfig) (t:GAccount) (e:GEvent):Ag l c t e=some true:=by
 unfold Ag;obtain⟨b,hb,D⟩:=small_s (l:=l) (c:=c) (t:=t);rw[hb,C,kaa]
 cases b with
 |false=>rfl
 |true=>
  obtain⟨v,hc,E,hp,ha⟩:=D rfl;have hf:FewR l:=⟨v.nt,v.ns,v.rows O,λs G=>(v.s s G).rules⟩;have hl:=v.ok H;obtain⟨w,s1⟩:=CW c e.Month;rw[if_pos (rfl:true=true),s1,kaa];obtain⟨g,M⟩:∃g,(if w=false then some (decide (e.Month<=3599))else some false)=some g:=by
   split<;>exact⟨_,rfl⟩
  rw[M,kaa]
  cases g with
  |true=>rfl
  |false=>
   rw[if_neg (by simp)];obtain⟨r,T,U⟩:=eR (e:=GEvent.mk 2 e.Date e.Month e.ToMonth e.Notice e.Appeal e.State e.Cents e.Fact) hl hf (c:=c) (by omega) (t:=t) (by omega) (by omega) (by omega);rw[T,kaa];rcases U with⟨z,n⟩|⟨z,u,hd,F,P,A,m,n,h2,x⟩
   .rw[if_pos z];rfl
   .rw[if_neg (saa.2 z)]
    cases h2 with
    |fact hk=>simp at hk
    |appeal hk=>simp at hk
    |decide hk=>simp at hk
    |repay hk=>simp at hk
    |waive hk=>simp at hk
    |pay hk lim S hm hS hlim=>
     dsimp only at hm hS hlim n;obtain⟨j,k⟩:=r;dsimp only at n x⊢;obtain⟨f1,f2⟩:=Sp u.cf;obtain⟨m1,m2,m3⟩:=hm.1.N3 f1;obtain⟨Q,hQ⟩:∃Q,Q=Yl c e.Month e.Date S lim (Ue l c t e.Month e.Date):=⟨_,rfl⟩;have y:=jD hl hf E (by omega) u (to:=e.Month) (rec:=e.Date) f1.1 m2 m3;have hr:j.Postings=t.Postings++Q/\j.Household=t.Household/\j.Appeals=t.Appeals:=by rw[n,hQ];exact⟨rfl,rfl,rfl⟩
     obtain⟨I,J,K⟩:=hr;have i:=jD hl hf (t:=j) (by rw[J];exact E) (c:=c) (by omega) x (to:=e.Month) (rec:=e.Date) f1.1 m2 m3;have hp4:=x.led.1;have o:=Yo hl hf (t:=j) (by rw[J];exact E) (c:=c) (by omega) (by omega) (by rw[K];omega) (to:=e.Month) f1.1 m3 e.Date;rw[if_neg (by omega)]at o;rw[o,kaa,YX (λb hb=>⟨(i.b b hb).1,pay_arr (by rw[I,hQ]) J K y i b hb⟩) i.len,kaa];dsimp only;have hlen:(Ue l c j e.Month e.Date).length=(e.Month+1-c.FirstMonth).toNat:=by unfold Ue;simp
     have B:Q.length<=240:=by
      have n:=wy (to:=e.Month) (d:=e.Date) (l:=Ue l c t e.Month e.Date);have h2:=Xt (kind:=2) (d:=e.Date) (om:=λm=>decide (m∈S)) (l:=Ue l c t e.Month e.Date) (rem:=lim);have x:=y.len;rw[hQ,Yl,Faa];omega
     rw[if_pos (by omega),I,if_pos (by rw[Faa];omega),fw (by rw[Faa];omega),List.take_left' rfl,kaa,np (by omega),kaa,kaa,if_neg (by simp),hS.1,kaa];have p:∀q∈Q,0<=q.Cents/\q.Cents<=1000000000000000:=λq hq=>by
      rw[hQ]at hq;obtain⟨-,b,w,b2,b3,b4⟩:=KK hq;have L:=pR (y.b b w).1;have V:=QS (y.b b w).1;omega
     rw[XV (P:=t.Postings) (Q:=Q) I hS.2 p (λq hq hk=>by
      rw[hQ]at hq;rcases Saa.1 hq with hq|hq
      .obtain⟨b,-,-,-,a,-⟩:=aw hq;exact absurd a hk
      .obtain⟨b,-,R,-,-,-,-,k3⟩:=Um hq;rw[R];simpa using k3) B (by omega),kaa]
     dsimp only;have L:(Q.map c1).sum=Kt (ku e.Month e.Date (Ue l c t e.Month e.Date)):=by
      rw[hQ,Yl,uab,sad,sum_c λq hq=>?_,r5 λq hq=>?_,Zac]
      .obtain⟨b,-,-,-,-,-,a,-⟩:=Um hq;obtain⟨b,-,-,-,a,-⟩:=Um hq;exact if_neg (by omega)
      .obtain⟨b,-,-,-,a,-⟩:=aw hq;exact if_pos a
     have V:(Q.map c2).sum=Kt (Bm 2 e.Date (λm=>decide (m∈S)) lim (Ue l c t e.Month e.Date)).1:=by
      rw[hQ,Yl,uab,sad,r5 λq hq=>?_,sum_c λq hq=>?_,eaf]
      .obtain⟨b,-,-,-,a,-⟩:=Um hq;exact if_neg (by omega)
      .obtain⟨b,-,-,-,a,-⟩:=aw hq;exact if_pos a
     have z3:=FF (kind:=2) (d:=e.Date) (om:=λm=>decide (m∈S)) (l:=Ue l c t e.Month e.Date) hlim.2;have W:=cL (f:=c2) (N:=1000000000000000) (Q:=Q) λq h=>by unfold c2;have:=p q h;split<;>omega
     rw[if_pos W.1,L,hlim.1,kaa,if_pos (by omega)];rfl
def Tz(d:Int) (b:GMonthBalance):Option GPosting:=if 0<Mh b then some ⟨d,b.Month,1,Mh b⟩else none
def Uz(d:Int) (b:GMonthBalance):Option GPosting:=if 0<sh b then some ⟨d,b.Month,3,sh b⟩else none
def jv(d:Int) (B:List GMonthBalance):List GPosting:=B.filterMap (Tz d)++B.filterMap (Uz d)
theorem FA(h:q∈B.filterMap (Tz d)):∃b∈B,0<Mh b/\q=⟨d,b.Month,1,Mh b⟩:=by
 obtain⟨b,c,a⟩:=iac.1 h;unfold Tz at a;split at a
 .exact⟨b,c,by assumption,(Iaa a).symm⟩
 .cases a
theorem GA(h:q∈B.filterMap (Uz d)):∃b∈B,0<sh b/\q=⟨d,b.Month,3,sh b⟩:=by
 obtain⟨b,c,a⟩:=iac.1 h;unfold Uz at a;split at a
 .exact⟨b,c,by assumption,(Iaa a).symm⟩
 .cases a
theorem D8(h:q∈jv d B):q.Date=d/\∃b∈B,PT b q:=by
 rcases Saa.1 h with h|h
 .obtain⟨b,a,c,rfl⟩:=FA h;exact⟨rfl,b,a,rfl,by simp only;omega,.inl ⟨rfl,rfl⟩⟩
 .obtain⟨b,a,c,rfl⟩:=GA h;exact⟨rfl,b,a,rfl,by simp only;omega,.inr (.inl ⟨.inr rfl,aad _⟩)⟩
theorem Zx{f:GMonthBalance->Option GPosting}(hf:∀b q,f b=some q->q.Month=b.Month):∀{B:List GMonthBalance},(B.map (·.Month)).Nodup->((B.filterMap f).map (·.Month)).Nodup
 |[],_=>by simp
 |b::B,h=>by
  simp only[vaa,vab]at h;have d:=Zx hf h.2;rw[Nac]
  cases e:f b with
  |none=>exact d
  |some q=>
   simp only[vaa,vab];refine⟨λhm=>h.1 ?_,d⟩;obtain⟨p,g,he⟩:=Paa.1 hm;obtain⟨a,ha,c⟩:=iac.1 g;exact Paa.2 ⟨a,ha,by rw[←hf a p c,he,hf b q e]⟩
theorem AR{k x:Int}(h:(if 0<x then some (⟨d,b.Month,k,x⟩:GPosting)else none)=some q):q.Month=b.Month:=by
 split at h
 .rw[←Iaa h]
 .cases h
theorem tU(hb:∀b∈B,BalB b) (hn:(B.map (·.Month)).Nodup):((jv d B).map (·.Month)).Nodup:=by
 unfold jv;rw[uab,wad];refine⟨Zx (λb q h=>AR (k:=1) (x:=Mh b) h) hn,Zx (λb q h=>AR (k:=3) (x:=sh b) h) hn,?_⟩;intro x hx y i e;obtain⟨q,hq,rfl⟩:=Paa.1 hx;obtain⟨p,g,rfl⟩:=Paa.1 i;obtain⟨b,c,f,rfl⟩:=FA hq;obtain⟨a,a1,a2,rfl⟩:=GA g;have:=iu hn c a1 e;subst this;obtain⟨d1,d2,d3,d4⟩:=hb b c;unfold Mh at f;unfold sh at a2;omega
theorem WR{f:GMonthBalance->Option GPosting}(hi:i<B.length):(B.take (i+1)).filterMap f=(B.take i).filterMap f++(f B[i]).toList:=by
 rw[←nad hi,iae];congr 1
theorem kP(hb:∀b∈B,BalB b) (hl:B.length<=120):ea (nh d B) (([]:List GPosting),0)=some (.inl (B.filterMap (Tz d))):=by
 refine Od (λi=>((B.take i).filterMap (Tz d),(i:Int))) B.length _ (λi hi=>?_) ?_ rfl
 .have a:=qR (hb _ (taa hi));have h2:=Xab (Tz d) (B.take i);rw[iab]at h2;unfold nh;dsimp only;rw[if_pos (by omega),Ea hi,kaa,a,kaa,WR hi];by_cases h:0<Mh B[i]
  .rw[if_pos h,Kh (by simp only[qaa,Aaa];omega),kaa,kaa,va (by omega),Tz,if_pos h];rfl
  .rw[if_neg h,kaa,va (by omega),Tz,if_neg h,Fae,Taa]
 .unfold nh;dsimp only;rw[if_neg (by omega),aab]
theorem jP(hb:∀b∈B,BalB b) (hl:B.length<=120) (hP:P.length<=120):ea (mh d B) (P,0)=some (.inl (P++B.filterMap (Uz d))):=by
 refine Od (λi=>(P++(B.take i).filterMap (Uz d),(i:Int))) B.length _ (λi hi=>?_) ?_ (by simp)
 .have a:=HG (hb _ (taa hi));have h2:=Xab (Uz d) (B.take i);rw[iab]at h2;unfold mh;dsimp only;rw[if_pos (by omega),Ea hi,kaa,a,kaa,WR hi];by_cases h:0<sh B[i]
  .rw[if_pos h,Kh (by simp only[qaa,Aaa,Faa];omega),kaa,kaa,va (by omega),Uz,if_pos h,List.append_assoc];rfl
  .rw[if_neg h,kaa,va (by omega),Uz,if_neg h,Fae,Taa]
 .unfold mh;dsimp only;rw[if_neg (by omega),aab]
section
variable {l:GLaw} {c:GPayConfig} {t:GAccount} {d:Int}
theorem pF(hl:LawOk l) (hf:FewR l) (a:t.Household.Facts.length<=64) (hc:c.Calendar.Holidays.length<=1048576) (ht:AccOk l c t) (rec:Int):∃B,ya l c t t.LastMonth rec=some B/\BalL c t t.LastMonth B/\B=if t.LastMonth = -1 then []else Ue l c t t.LastMonth rec:=by
 obtain⟨f1,f2⟩:=Sp ht.cf;have hp4:=ht.led.1;have ha4:=ht.rL;have b:=Uv f1 ht;have:=Yo hl hf a hc (by omega) (by omega) (to:=t.LastMonth) f1.1 b.2 rec;rcases ht.last with h|h
 .rw[if_pos (by omega)]at this;exact⟨[],this,⟨by simp,by simp,by simp⟩,by rw[if_pos h]⟩
 .have hr:=h.N3 f1;rw[if_neg (by omega)]at this;exact⟨_,this,jD hl hf a hc ht f1.1 hr.2.1 hr.2.2,by rw[if_neg (by omega)]⟩
theorem sE(hl:LawOk l) (hf:FewR l) (hc:c.Calendar.Holidays.length<=1048576) (o:t.Household.Facts.length<=64) (h2:t.Postings.length<=1048576) (j:t.Appeals.length<=1048576) :
 ∃r,Za l c t d=some r/\((r.2≠0/\r.1=t)\/(r.2=0/\AccOk l c t/\(t.Date<=d/\d<=109572)/\∃B,ya l c t t.LastMonth d=some B/\BalL c t t.LastMonth B/\r.1=DG t d t.Household.Facts (t.Postings++jv d B) t.Appeals t.LastMonth/\AccOk l c r.1)):=by
 obtain⟨n,p,s⟩:=Vf hl hc (t:=t) (by omega) h2 j;unfold Za;rw[p,kaa];by_cases f:n=0
 case neg=>exact⟨_,by rw[if_pos f],.inl ⟨by simp,rfl⟩⟩
 have ht:=s.1 f;rw[if_neg (saa.2 f)];have hd0:=ht.date;by_cases hd:d<0
 .exact⟨_,by rw[if_neg (saa.2 hd),kaa,if_pos rfl],.inl ⟨by simp,rfl⟩⟩
 rw[if_pos hd,kaa];by_cases e:109572<d
 .exact⟨_,by rw[decide_eq_true e,if_pos rfl],.inl ⟨by simp,rfl⟩⟩
 rw[decide_eq_false e,if_neg (by simp)];by_cases ho:d<t.Date
 .exact⟨_,by rw[if_pos ho],.inl ⟨by simp,rfl⟩⟩
 rw[if_neg ho];obtain⟨B,m,a,b3⟩:=pF hl hf o hc ht d;have hb:=λb hb=>(a.b b hb).1;have l1:=Xab (Tz d) B;have l3:=Xab (Uz d) B;have i:=a.len;have hp4:=ht.led.1;rw[m,kaa,kP hb i];dsimp only;rw[kaa];dsimp only;rw[jP hb i (by omega),kaa];dsimp only;have hq:(jv d B).length<=240:=by unfold jv;rw[Faa];omega
 rw[show B.filterMap (Tz d)++B.filterMap (Uz d)=jv d B from rfl,wid (by omega) (by omega)];by_cases k:4096<(t.Postings.length:Int)+((jv d B).length:Int)
 .exact⟨_,by rw[if_pos k],.inl ⟨by simp,rfl⟩⟩
 rw[if_neg k];have g:Oj t=some (t.Household.Facts,t.Postings,t.Appeals):=vF (by omega) h2 j;rw[g,kaa];dsimp only;rw[Kh (by omega),kaa];refine⟨_,rfl,.inr ⟨rfl,ht,by omega,B,rfl,a,rfl,?_⟩⟩;exact ht.T7 a (by omega) (.inl rfl) (λq h=>D8 h) (tU hb a.nd) (by omega)
end
theorem BR(hb:∀b∈B,BalB b) (hn:(B.map (·.Month)).Nodup) (hm:b∈B):pc uq b.Month (jv d B)=Mh b-sh b:=by
 have g:pc uq b.Month (B.filterMap (Tz d))=Mh b:=by
  by_cases h:0<Mh b
  .have hq:(⟨d,b.Month,1,Mh b⟩:GPosting)∈B.filterMap (Tz d):=iac.2 ⟨b,hm,if_pos h⟩;have:=gw (f:=uq) (Zx (λb q h=>AR (k:=1) (x:=Mh b) h) hn) hq;rw[show uq ⟨d,b.Month,1,Mh b⟩=Mh b from if_pos rfl]at this;exact this
  .rw[nr λp c e=>?_]
   .have:=(pR (hb b hm)).1;omega
   .obtain⟨a,a1,a2,rfl⟩:=FA c;have:=iu hn a1 hm e;subst this;exact h a2
 have i:pc uq b.Month (B.filterMap (Uz d)) = -sh b:=by
  by_cases h:0<sh b
  .have hq:(⟨d,b.Month,3,sh b⟩:GPosting)∈B.filterMap (Uz d):=iac.2 ⟨b,hm,if_pos h⟩;have:=gw (f:=uq) (Zx (λb q h=>AR (k:=3) (x:=sh b) h) hn) hq;rw[show uq ⟨d,b.Month,3,sh b⟩ = -sh b by simp[uq]]at this;exact this
  .rw[nr λp c e=>?_]
   .have:=(QS (hb b hm)).1;omega
   .obtain⟨a,a1,a2,rfl⟩:=GA c;have:=iu hn a1 hm e;subst this;exact h a2
 unfold jv;rw[vn,g,i];omega
theorem yJ{l:GLaw}{c:GPayConfig}{t:GAccount}:∃b,Cp l c t=some b/\(b=true->SmallL l/\c.Calendar.Holidays.length<=70/\t.Household.Facts.length<=64/\t.Postings.length<=200/\t.Appeals.length<=20):=by
 obtain⟨f,s1⟩:∃b,Jk c t.LastMonth=some b:=by
  unfold Jk;split
  .split<;>exact⟨_,rfl⟩
  .exact⟨_,rfl⟩
 unfold Cp Hh Mg wb;obtain⟨b,hb,d⟩:=bt l;rw[hb,s1]
 cases b with
 |false=>exact⟨false,rfl,λh=>by cases h⟩
 |true=>
  by_cases hc:(c.Calendar.Holidays.length:Int)<=70
  case neg=>exact⟨false,by simp[hc],λh=>by cases h⟩
  by_cases a:(t.Household.Facts.length:Int)<=40
  case neg=>exact⟨false,by simp[hc,a],λh=>by cases h⟩
  by_cases e:(t.Postings.length:Int)<=200
  case neg=>exact⟨false,by simp[hc,a,e],λh=>by cases h⟩
  by_cases ha:(t.Appeals.length:Int)<=20
  case neg=>exact⟨false,by simp[hc,a,e,ha],λh=>by cases h⟩
  exact⟨f,by simp[hc,a,e,ha],λ_=>⟨d rfl,by omega,by omega,by omega,by omega⟩⟩
theorem LK{t:GAccount}(hp:t.Postings.length<=1048576):∃b,dn t=some b/\(b=true->(∀p∈t.Postings,p.Kind≠4)/\t.Appeals=[]):=by
 unfold dn;have:ea (gn t) 0=some (fi () (ff (λi=>match t.Postings[i]? with|some p=>if p.Kind=4 then some false else none|none=>none) t.Postings.length)):=by
  refine kh (λi=>(i:Int)) _ t.Postings.length () (λi hi _=>?_) (λ_=>?_)
  .unfold gn;rw[if_pos (by omega),Ea hi,kaa,naa hi];dsimp only;by_cases h:t.Postings[i].Kind=4
   .rw[if_pos h,if_pos h];rfl
   .rw[if_neg h,if_neg h,va (by omega)];rfl
  .simp[gn]
 rw[this,kaa]
 cases hf:ff (λi=>match t.Postings[i]? with|some p=>if p.Kind=4 then some false else none|none=>none) t.Postings.length with
 |some v=>
  obtain⟨i,hi,a,-⟩:=vb.1 hf;rw[naa hi]at a;dsimp only at a;split at a
  .obtain rfl:=Iaa a;exact⟨false,rfl,λh=>by cases h⟩
  .cases a
 |none=>
  refine⟨_,rfl,λh=>⟨λp c hk=>?_,?_⟩⟩
  .obtain⟨i,hi,rfl⟩:=waa c;have:=sb.1 hf i hi;rw[naa hi]at this;simp[hk]at this
  .simp only[beq_iff_eq]at h;exact Laa (by omega)
section
variable {l:GLaw} {c:GPayConfig} {t:GAccount} {d:Int}
theorem CG{a b:Int}(h:b<a) (hh:0<=a) (hx:GHousehold):zb l hx c a b rec=some []:=by
 unfold zb;rw[if_pos (by omega),if_neg (saa.2 h),kaa,if_pos rfl]
theorem aK(ht:AccOk l c t) (a:BalL c t t.LastMonth (Ue l c t t.LastMonth d)) (hk:∀p∈t.Postings,p.Kind≠4) (ha:t.Appeals=[]) {j:Nat}(hj:j<(t.LastMonth+1-c.FirstMonth).toNat) (hc:(fv l t.Household c (c.FirstMonth+(j:Int)) d).Code=0) :
 pc uq (c.FirstMonth+(j:Int)) (t.Postings++jv d (Ue l c t t.LastMonth d))=(fv l t.Household c (c.FirstMonth+(j:Int)) d).Cents:=by
 obtain⟨w,hw⟩:∃w,w=fv l t.Household c (c.FirstMonth+(j:Int)) d:=⟨_,rfl⟩;have e:w.Month=c.FirstMonth+(j:Int):=by rw[hw,Kq]
 have i:Xz t.Appeals w=w:=by rw[ha];rfl
 have hm:Pg t.Postings w∈Ue l c t t.LastMonth d:=by
  unfold Ue;exact Paa.2 ⟨j,Eac.2 hj,by rw[←hw,i]⟩
 obtain⟨e1,e2,e3,-,-⟩:=a.b _ hm;have g:=BR (d:=d) (λb hb=>(a.b b hb).1) a.nd hm;rw[←hw]at hc⊢;rw[Mq]at e2 e3 g;rw[←e,vn,g,←e2];have hdue:(Pg t.Postings w).Due=w.Cents:=if_pos hc;have hwz:pc Bz w.Month t.Postings=0:=by
  rw[show pc Bz w.Month t.Postings=pc (λ_=>0) w.Month t.Postings from ?_]
  .have:∀L:List GPosting,pc (λ_=>0) w.Month L=0:=λL=>by
    induction L with
    |nil=>rfl
    |cons p L f=>rw[pc,f];split<;>rfl
   exact this _
  .have:∀L:List GPosting,(∀p∈L,p.Kind≠4)->pc Bz w.Month L=pc (λ_=>0) w.Month L:=λL h=>by
    induction L with
    |nil=>rfl
    |cons p L f=>rw[pc,pc,f λq hq=>h q (by simp[hq]),show Bz p=0 from if_neg (h p (by simp))]
   exact this _ hk
 unfold Mh sh;omega
theorem aT(h:Hu P) (m:Int):fb P m=some (pc uq m P):=by
 unfold fb;have:=h.1;rw[if_pos (by omega),PK,cw (by omega) h.post]
end
theorem GJ(u:Wb=some true) {l:GLaw}(H:iR l) (z:vI l) (c:GPayConfig) (t:GAccount) (d:Int):df l c t d=some true:=by
 unfold df;obtain⟨b,hb,v⟩:=yJ (l:=l) (c:=c) (t:=t);rw[hb,u,kaa]
 cases b with
 |false=>rfl
 |true=>
  obtain⟨o,hc,E,hp,ha⟩:=v rfl;have hf:FewR l:=⟨o.nt,o.ns,o.rows H,λs y=>(o.s s y).rules⟩;have hl:=o.ok z;obtain⟨F,I,J⟩:=LK (t:=t) (by omega);rw[if_pos (rfl:true=true),I,kaa,kaa]
  cases F with
  |false=>rfl
  |true=>
   obtain⟨hk,hA⟩:=J rfl;rw[if_neg (by simp)];obtain⟨r,K,L⟩:=sE (d:=d) hl hf (c:=c) (by omega) (t:=t) (by omega) (by omega) (by omega);rw[K,kaa];rcases L with⟨p,C⟩|⟨p,e,hd,B,C,h2,D,G⟩
   .rw[if_pos p];rfl
   .rw[if_neg (saa.2 p)];obtain⟨f1,f2⟩:=Sp e.cf;obtain⟨B',g1,g2,g3⟩:=pF hl hf E (by omega) e d;rw[C]at g1;obtain rfl:=Iaa g1;have m:We l c r.1=some true:=by
     unfold We;have hr:r.1.Household=t.Household/\r.1.LastMonth=t.LastMonth/\r.1.Date=d:=by rw[D];exact⟨rfl,rfl,rfl⟩
     have hlr:=Uv f1 e;have hl1:-1<=t.LastMonth:=by
      rcases e.last with h|h
      .omega
      .have:=h.N3 f1;omega
     rw[hr.1,hr.2.1,hr.2.2,wid (n:=t.LastMonth+1) (by omega) (by omega)];by_cases hx:t.LastMonth+1<c.FirstMonth
     .rw[CG hx f1.1,kaa,if_neg (by omega),kaa,if_neg (by simp),Va (b:=()) (by unfold Ac;rw[if_neg (by simp)])];rfl
     .rw[Gu hl hf E (by omega) (by omega),kaa];obtain⟨n,hn⟩:∃n,n=(t.LastMonth+1-c.FirstMonth).toNat:=⟨_,rfl⟩;rw[←hn];obtain⟨A,f⟩:∃A,A=(xaa n).map λ(j:Nat)=>fv l t.Household c (c.FirstMonth+j) d:=⟨_,rfl⟩;rw[←f];have q:A.length=n:=by rw[f];simp
      have w:(if c.FirstMonth<=t.LastMonth then some ((A.length:Int) !=aa .i64 (t.LastMonth+1-c.FirstMonth))else some false)=some false:=by
       split
       .rw[wid (by omega) (by omega),q];simp only[Vaa,bne_eq_false_iff_eq];omega
       .rfl
      rw[w,kaa,if_neg (by simp)];have x:ea (Ac r.1 A) 0=some (.inl ()):=by
       refine Od (λi=>(i:Int)) A.length _ (λi hi=>?_) ?_ rfl
       .have g:A[i]=fv l t.Household c (c.FirstMonth+(i:Int)) d:=by
         simp only[f,aac,Vac]
        unfold Ac;rw[if_pos (by omega),Ea hi,kaa];by_cases a:A[i].Code=0
        .rw[if_pos a,aT G.led,kaa,kaa];have k:B=Ue l c t t.LastMonth d:=by rw[g3,if_neg (by omega)]
         have:=aK (d:=d) e (by rw[←k];exact h2) hk hA (j:=i) (by omega) (by rw[←g];exact a);rw[←g,←k]at this;rw[show A[i].Month=c.FirstMonth+(i:Int) by rw[g,Kq],show r.1.Postings=t.Postings++jv d B by rw[D];rfl,this,if_neg (by simp),va (by omega)]
        .rw[if_neg a,kaa,if_neg (by simp),va (by omega)]
       .simp[Ac]
      rw[x];rfl
    rw[m];rfl
theorem ten_as1:lC [Xb] (-1) 0 0 3=(⟨3,0,500⟩,true):=by
 rcases(lF (l:=[Xb]) (by simp) (-1) 0 0 3).2 with⟨-,e⟩|⟨f,h,e,-⟩
 .have:=e Xb (by simp);exact absurd this (by decide)
 .rw[oab]at h;rw[e,h];rfl
theorem JW:Rr Yb Og (xb [Xb]) 0 3=(⟨0,[⟨3,0,500⟩],[]⟩,0):=by
 have hm:Ko (xb [Xb]) 0 3=[]:=by
  unfold Ko;rw[show(min (max (xb [Xb]).Members 0) 8).toNat=0 from rfl];rfl
 grind[Rr,uo,Og,xb,ten_as1]
theorem ten_cd{l:List GFact}(h:l=[]\/l=[Xb]):yO Yb (xb l) 3=[]:=by
 rcases h with rfl|rfl<;>kernel_rfl
theorem ten_aw1:fv Yb (xb [Xb]) Pb 0 3=⟨0,500,0⟩:=by
 have b:ie Yb 0 (xb [Xb]) 0 3 0=(⟨3,0,500⟩,0):=by
  unfold ie;rw[show Yb.Scopes[0]?=some Og from rfl];(try dsimp only);rw[JW,if_neg (by decide)];(try dsimp only);rw[show((0:Nat):Int)=0 from rfl,wT];rfl
 have a:oQ Yb (xb [Xb]) 0 3=[⟨0,31⟩]:=by unfold oQ;rw[ten_cd (.inr rfl),xT];rfl
 unfold fv;rw[xT,if_neg (by decide),lO TB,Nab,if_neg (by decide),a];unfold zA Av;simp only[qaa,Aaa,ff,Yaa,vaa,gab];rw[show(xb [Xb]).Scope.toNat=0 from rfl,show Pb.Def=0 from rfl,b];rfl
theorem rH:Ue Yb Pb ⟨xb [Xb],P,[],d,m⟩ 0 9=[Pg P ⟨0,500,0⟩]:=by
 unfold Ue;rw[show((0:Int)+1-Pb.FirstMonth).toNat=1 from rfl];simp only[tae,vaa,gab];rw[show Pb.FirstMonth+((0:Nat):Int)=0 from rfl,uT];rfl
theorem ten_bal:Ue Yb Pb ⟨xb [Xb],P,[],d,m⟩ 0 3=[Pg P ⟨0,500,0⟩]:=by
 unfold Ue;rw[show((0:Int)+1-Pb.FirstMonth).toNat=1 from rfl];simp only[tae,vaa,gab];rw[show Pb.FirstMonth+((0:Nat):Int)=0 from rfl,ten_aw1];rfl
theorem fL(hP:P.length<=1048576):ya Yb Pb ⟨xb [Xb],P,[],d,0⟩ 0 r=some (Ue Yb Pb ⟨xb [Xb],P,[],d,0⟩ 0 r):=by
 have e1:=Yo Xo SB (t:=⟨xb [Xb],P,[],d,0⟩) (by simp[xb]) (c:=Pb) (by simp[Pb]) hP (by simp) (to:=0) (by simp[Pb]) (by simp[Pb]) r;rw[if_neg (by simp[Pb])]at e1;exact e1
theorem sT:AccOk Yb Pb ⟨xb [Xb],[],[],3,0⟩:=
 ⟨SE.cf,SE.hv,by simp,.inr (by decide),⟨by simp,λi h=>by simp at h⟩,by simp,by simp,λi h=>by simp at h,Eo.2 ⟨by simp[xb,Xb],by simp,by simp⟩⟩
theorem KW:Za Yb Pb ⟨xb [Xb],[],[],3,0⟩ 9=some (⟨xb [Xb],[⟨9,0,1,500⟩],[],9,0⟩,0):=by
 obtain⟨n,f,g⟩:=Vf Xo (c:=Pb) (by simp[Pb]) (t:=⟨xb [Xb],[],[],3,0⟩) (by simp[xb]) (by simp) (by simp);have a:∀b∈[Pg [] (⟨0,500,0⟩:GAward)],BalB b:=by
  have:=jD Xo SB (t:=⟨xb [Xb],[],[],3,0⟩) (by simp[xb]) (c:=Pb) (by simp[Pb]) sT (to:=0) (rec:=9) (by simp[Pb]) (by simp) (by simp[Pb]);rw[rH]at this;exact λb hb=>(this.b b hb).1
 unfold Za;rw[f,g.2 sT,kaa,if_neg (by simp),if_pos (by simp),kaa,decide_eq_false (by simp),if_neg (by simp),if_neg (by simp)];dsimp only;rw[fL (by simp),rH,kaa,kP a (by simp),kaa];dsimp only;have d:[Pg [] (⟨0,500,0⟩:GAward)].filterMap (Tz 9)=[⟨9,0,1,500⟩]:=by kernel_rfl
 have e:[Pg [] (⟨0,500,0⟩:GAward)].filterMap (Uz 9)=[]:=by kernel_rfl
 rw[d,jP a (by simp) (by simp),e,kaa];rfl
theorem ten_no:Wa Yb Pb ⟨xb [Xb],[],[],3,0⟩=some false:=by
 unfold Wa;dsimp only;rw[fL (by simp),ten_bal,kaa];unfold Nh;rw[Jc (s':=(500,0,1)) (by kernel_rfl),Va (b:=(500,0)) (by kernel_rfl)];rfl
theorem ten_yes:Wa Yb Pb ⟨xb [Xb],[⟨9,0,1,500⟩],[],9,0⟩=some true:=by
 unfold Wa;dsimp only;rw[fL (by simp),rH,kaa];unfold Nh;rw[Jc (s':=(0,0,1)) (by kernel_rfl),Va (b:=(0,0)) (by kernel_rfl)];rfl
theorem G6:Wb=some true:=by
 unfold Wb;rw[show jo [GNode.mk 7 0]=some Yb from rfl,kaa,show GHousehold.mk 0 0 0 [GFact.mk 0 (-1) 0 (GValue.mk 3 0 500) (GDateRange.mk 0 109573) 0]=xb [Xb]from rfl,show GPayConfig.mk 0 0 1 0 0 0 0 (GCalendar.mk 0 [])=Pb from rfl,KW,kaa];dsimp only;rw[if_pos rfl,ten_no,kaa,if_pos rfl,ten_yes,kaa,if_pos rfl];have h:Db ⟨xb [Xb],[⟨9,0,1,500⟩],[],9,0⟩=some 500:=by
  unfold Db Dp;rw[if_pos (by simp)]
  kernel_rfl
 rw[h];rfl
theorem YR{v:GPosting->Int}{q:GPosting->Prop} [DecidablePred q]:∀{L:List GPosting}{s0 s:Int},s0=aa .i64 s->(∀p∈L,q p)->L.foldl (λs p=>if q p then aa .i64 (s+v p)else s) s0=aa .i64 (s+(L.map v).sum)
 |[],s0,s,a,_=>by simp[a]
 |p::L,s0,s,a,h=>by
  rw[eab,if_pos (h p (by simp)),a,wrap_add,YR rfl λx hx=>h x (by simp[hx]),vaa,zab,Int.add_assoc]
theorem sum3:∀P:List GPosting,((P.filter λp=>p.Kind==1).map Lx).sum+((P.filter λp=>p.Kind==2).map Lx).sum+((P.filter λp=>p.Kind==3).map Lx).sum=(P.map qI).sum
 |[]=>rfl
 |p::P=>by
  have h:=sum3 P;have g:¬p.Kind=1->¬p.Kind=2->¬p.Kind=3->qI p=0:=λa b c=>by simp_all[qI]
  simp only[Sac,vaa,zab,beq_iff_eq]at h⊢;have e:=oR p;by_cases d:p.Kind=1
  .rw[if_pos d,if_neg (by omega),if_neg (by omega),vaa,zab];omega
  .by_cases h2:p.Kind=2
   .rw[if_neg d,if_pos h2,if_neg (by omega),vaa,zab];omega
   .by_cases f:p.Kind=3
    .rw[if_neg d,if_neg h2,if_pos f,vaa,zab];omega
    .rw[if_neg d,if_neg h2,if_neg f];have:=g d h2 f;omega
theorem w8(h:∀p∈P,0<=p.Date/\p.Date<109573):WL 0 109573 P [1,2,3]=aa .i64 (P.map qI).sum:=by
 have hf:∀k:Int,∀p∈P.filter (λp=>p.Kind==k),0<=p.Date/\p.Date<109573:=λk p a=>h p (hac.1 a).1;unfold WL;simp only[eab,uac];rw[YR (q:=λp=>0<=p.Date/\p.Date<109573) (v:=Lx) (s:=0) w0.symm (hf 1),YR (q:=λp=>0<=p.Date/\p.Date<109573) (v:=Lx) rfl (hf 2),YR (q:=λp=>0<=p.Date/\p.Date<109573) (v:=Lx) rfl (hf 3),eaf,sum3]
theorem qS{a x:Int}:∀{ms:List Int},ms.Nodup->(ms.map λm=>if a=m then x else 0).sum=if a∈ms then x else 0
 |[],_=>by simp
 |m::ms,h=>by
  have h':=vab.1 h;rw[vaa,zab,qS h'.2];by_cases e:a=m
  .subst e;rw[if_pos rfl,if_neg h'.1,if_pos (by simp)];omega
  .rw[if_neg e];by_cases e2:a∈ms
   .rw[if_pos e2,if_pos (by simp[e2])];omega
   .rw[if_neg e2,if_neg (by simp[e,e2])];rfl
theorem sum_add(f g:Int->Int):∀ms:List Int,(ms.map λm=>f m+g m).sum=(ms.map f).sum+(ms.map g).sum
 |[]=>rfl
 |m::ms=>by
  simp only[vaa,zab,sum_add f g ms];omega
theorem kJ{f:GPosting->Int}{ms:List Int}(hn:ms.Nodup):∀{P:List GPosting},(∀p∈P,p.Month∈ms)->(ms.map λm=>pc f m P).sum=(P.map f).sum
 |[],_=>by
  have:∀ms:List Int,(ms.map λm=>pc f m []).sum=0:=λms=>by
   induction ms with
   |nil=>rfl
   |cons m ms a=>rw[vaa,zab,a];rfl
  exact this ms
 |p::P,h=>by
  simp only[pc];rw[sum_add (λm=>if p.Month=m then f p else 0) λm=>pc f m P,qS hn,if_pos (h p (by simp)),kJ hn λq hq=>h q (by simp[hq])];simp
theorem GX(hP:P.length<=1048576):wh P=some (wg (P.map (·.Month))):=by
 unfold wh;have:ea (Qe P) (([]:List Int),0)=some (.inl (P.map (·.Month))):=by
  refine Od (λi=>((P.take i).map (·.Month),(i:Int))) P.length _ (λi hi=>?_) ?_ rfl
  .unfold Qe;dsimp only;rw[if_pos (by omega),Ea hi,kaa,Kh (by simp only[Waa,iab,qaa,Aaa];omega),kaa,va (by omega),Bc hi,uab];rfl
  .unfold Qe;dsimp only;rw[if_neg (by omega),aab]
 rw[this,kaa];unfold Ja Ca;dsimp only;rw[if_pos (by rw[Waa];omega),kaa,if_pos (by rw[List.length_mergeSort,Waa];omega),kaa,yr]
theorem u5{a:GAccount×Int}(hx:a.1.Postings=P) (hP:Hu P) {ms:List Int}(hm:ms.length<=1048576):ea (Dd a ms) (0,0)=some (.inl (aa .i64 (ms.map λm=>pc uq m P).sum)):=by
 refine Od (λi=>(aa .i64 ((ms.take i).map λm=>pc uq m P).sum,(i:Int))) ms.length _ (λi hi=>?_) ?_ (by simp[w0])
 .unfold Dd;dsimp only;rw[if_pos (by omega),Ea hi,kaa,hx,aT hP,kaa,wrap_add,va (by omega),Bc hi];simp only[uab,sad,vaa,gab,zab,kae,Zac]
 .unfold Dd;dsimp only;rw[if_neg (by omega),aab]
theorem X5(h:∀b∈B,BalB b/\Mh b=0/\sh b=0) (hl:B.length<=120):Nh B=some (0,0):=by
 unfold Nh;have:ea (Mi B) (0,0,0)=some (.inl (0,0)):=by
  refine Od (λi=>(0,0,(i:Int))) B.length _ (λi hi=>?_) ?_ rfl
  .obtain⟨a,h2,c⟩:=h _ (taa hi);unfold Mi;dsimp only;rw[if_pos (by omega),Ea hi,kaa,qR a,kaa,HG a,kaa,h2,c,va (by omega)];rfl
  .unfold Mi;dsimp only;rw[if_neg (by omega)]
 rw[this];rfl
theorem waz_clo:pc Bz m (jv d B)=0:=by
 have:∀Q:List GPosting,(∀q∈Q,Bz q=0)->pc Bz m Q=0:=λQ=>by
  induction Q with
  |nil=>intro _;rfl
  |cons q Q a=>intro h;rw[pc,a λx hx=>h x (by simp[hx]),h q (by simp)];split<;>rfl
 refine this _ λq hq=>?_;rcases Saa.1 hq with hq|hq
 .obtain⟨b,-,-,rfl⟩:=FA hq;rfl
 .obtain⟨b,-,-,rfl⟩:=GA hq;rfl
section
variable {l:GLaw} {c:GPayConfig} {t:GAccount} {d:Int}
theorem sU(hP:t'.Postings=t.Postings++jv d (Ue l c t t.LastMonth d)) (p:t'.Household=t.Household) (hA:t'.Appeals=t.Appeals) (i:BalL c t t.LastMonth (Ue l c t t.LastMonth d)) (k:BalL c t' t.LastMonth (Ue l c t' t.LastMonth d)) (h:GMonthBalance) (hb:h∈Ue l c t' t.LastMonth d):Mh h=0/\sh h=0:=by
 obtain⟨o,a,k3,k4,k5⟩:=k.b h hb;have e:=hb;unfold Ue at e;obtain⟨j,hj,rfl⟩:=Paa.1 e;rw[p,hA]at o a k3 k4 k5⊢;obtain⟨w,hw⟩:∃w,w=Xz t.Appeals (fv l t.Household c (c.FirstMonth+(j:Int)) d):=⟨_,rfl⟩;rw[←hw]at o a k3 k4 k5⊢;have hm:Pg t.Postings w∈Ue l c t t.LastMonth d:=by
  unfold Ue;exact Paa.2 ⟨j,hj,by rw[hw]⟩
 obtain⟨e1,e2,e3,-,-⟩:=i.b _ hm;have n:=BR (d:=d) (λb hb=>(i.b b hb).1) i.nd hm;rw[Mq]at a k3 e2 e3 n;have q:pc uq w.Month t'.Postings=(Pg t.Postings w).Received+(Mh (Pg t.Postings w)-sh (Pg t.Postings w)):=by rw[hP,vn,n,e2]
 have r:pc Bz w.Month t'.Postings=(Pg t.Postings w).Waived:=by rw[hP,vn,waz_clo,e3];omega
 rw[q]at a;rw[r]at k3;obtain⟨s,u,v,-⟩:=e1;obtain⟨R,m⟩:∃R,R=Pg t'.Postings w:=⟨_,rfl⟩;obtain⟨b,f⟩:∃b,b=Pg t.Postings w:=⟨_,rfl⟩;have g:R.Due=if w.Code=0 then b.Due else R.Received:=by
  rw[m,f];by_cases hc:w.Code=0
  .rw[if_pos hc];show(if w.Code=0 then w.Cents else _)=if w.Code=0 then w.Cents else _;rw[if_pos hc,if_pos hc]
  .rw[if_neg hc];show(if w.Code=0 then w.Cents else _)=_;rw[if_neg hc];rfl
 rw[←m]at a k3⊢;rw[←f]at a k3 s u v;unfold Mh sh at a⊢;split at g<;>omega
end
theorem HJ(v:Wb=some true) {l:GLaw}(G:iR l) (z:vI l) (c:GPayConfig) (t:GAccount) (d:Int):ef l c t d=some true:=by
 unfold ef;obtain⟨b,hb,w⟩:=yJ (l:=l) (c:=c) (t:=t);rw[hb,v,kaa]
 cases b with
 |false=>rfl
 |true=>
  obtain⟨i,hc,A,e,ha⟩:=w rfl;have hf:FewR l:=⟨i.nt,i.ns,i.rows G,λs y=>(i.s s y).rules⟩;have hl:=i.ok z;rw[if_neg (by simp)];obtain⟨r,N,O⟩:=sE (d:=d) hl hf (c:=c) (by omega) (t:=t) (by omega) (by omega) (by omega);rw[N,kaa];rcases O with⟨q,u⟩|⟨q,g,hd,B,u,h2,F,a⟩
  .rw[if_pos q,u,FB (by omega) (by omega) (by omega)];rfl
  .rw[if_neg (saa.2 q)];obtain⟨f1,f2⟩:=Sp g.cf;obtain⟨B',g1,g2,g3⟩:=pF hl hf A (by omega) g d;rw[u]at g1;obtain rfl:=Iaa g1;have hr:r.1.Household=t.Household/\r.1.LastMonth=t.LastMonth/\r.1.Date=d/\r.1.Appeals=t.Appeals/\r.1.Postings=t.Postings++jv d B:=by rw[F];exact⟨rfl,rfl,rfl,rfl,rfl⟩
   obtain⟨q1,M,C,D,E⟩:=hr;have hlen:=a.led.1;obtain⟨n,K,L⟩:=Vf hl (c:=c) (by omega) (t:=r.1) (by rw[q1];omega) (by omega) (by rw[D];omega);have j:Wa l c r.1=some true:=by
    unfold Wa;obtain⟨B2,P,k,o⟩:=pF hl hf (t:=r.1) (by rw[q1];exact A) (c:=c) (by omega) a d;rw[C,P,kaa,X5 (λb hb=>?_) k.len]
    .rfl
    .rw[M]at k o;by_cases hx:t.LastMonth = -1
     .rw[o,if_pos hx]at hb;cases hb
     .rw[if_neg hx]at o g3;rw[o]at hb k;rw[g3]at h2 E;exact⟨(k.b b hb).1,sU E q1 D h2 k b hb⟩
   have x:∀p∈r.1.Postings,0<=p.Date/\p.Date<109573:=λp e=>by have:=(a.led.post p e).1;omega
   obtain⟨H,I,J⟩:=Ig (r.1.Postings.map (·.Month));have f:Db r.1=some (aa .i64 ((wg (r.1.Postings.map (·.Month))).map λm=>pc uq m r.1.Postings).sum):=by
    unfold Db Dp;dsimp only;rw[if_pos (by omega),w8 x,kaa,kJ (H.imp λh=>Int.ne_of_lt h) λp e=>(J _).2 (Paa.2 ⟨p,e,rfl⟩)];rw[Hab λp e=>sgP_Z (a.led.post p e)]
   rw[GX (by omega),kaa,u5 rfl a.led (by rw[Waa]at I;omega),kaa];dsimp only;rw[K,L.2 a,kaa,if_pos rfl,j,kaa,if_pos rfl,f,kaa,if_pos rfl,if_pos C];rfl
section
variable {l:GLaw} {h h':GHousehold}
theorem MH(hl:LawOk l) (b:h'.Scope=h.Scope) (hv:(EO l h).2=0) (a:(EO l h').2=0) {c:GPayConfig}:qc l h' c=qc l h c:=by
 unfold qc;rw[Sc l h hl.ns,Sc l h' hl.ns,b];have:((EO l h').2==0)=((EO l h).2==0):=by rw[hv,a]
 simp_all
theorem rY(rec:Int) (hl:FewR l) (hs:h'.Scope=h.Scope) (b:h.Facts.length<=64) (a:h'.Facts.length<=64) (he:∀f,f∈h.Facts↔f∈h'.Facts):yO l h' rec=yO l h rec:=by
 obtain⟨-,a2,-,a4⟩:=y8 (l:=l) (h:=h) rec hl b;obtain⟨-,b2,-,b4⟩:=y8 (l:=l) (h:=h') rec hl a
 grind[aI,FN,Q0]
theorem wN(hf:FactsOk h.Facts) (hh':h'.Facts.length<=64) (hm:h'.Members=h.Members) (he:∀f,f∈h.Facts↔f∈h'.Facts) (def_ rec d:Int):ie l i h' def_ rec d=ie l i h def_ rec d:=by
 have hlen:=hf.len;have has:∀m j,lC h'.Facts m j d rec=lC h.Facts m j d rec:=λm j=>(ZX hf (by omega) he λ_ _=>rfl).symm;have hv:∀m n,uo h'.Facts m n d rec=uo h.Facts m n d rec:=λm n=>by
  grind[uo]
 have hp:prS h'.Facts d rec=prS h.Facts d rec:=by
  grind[prS]
 grind[Rr,Ko,ie]
theorem cY(hl:LawOk l) (a:FewR l) (hh:h.Facts.length<=64) (e:h'.Facts.length<=64) {c:GPayConfig}(hc:c.Calendar.Holidays.length<=1048576) (n:h'.Scope=h.Scope) (g:h'.Members=h.Members) (hv:(EO l h).2=0) (k:(EO l h').2=0) (he:∀f,f∈h.Facts↔f∈h'.Facts) (m rec:Int):fv l h' c m rec=fv l h c m rec:=by
 obtain⟨b,o,p⟩:=Oz hl (λx hx=>Qab (a.s x hx) (by decide)) (h:=h) (by omega) hc;unfold fv;rw[MH hl n hv k,o,Nab];by_cases hm:(Tc m).2=0
 case neg=>simp_all
 rw[if_neg (saa.2 hm),if_neg (saa.2 hm)]
 cases b with
 |false=>simp
 |true=>
  rw[if_neg (by simp),if_neg (by simp)];obtain⟨i,H⟩:=p rfl;obtain⟨i',j⟩:=XA H.hv;have hV:ie l h'.Scope.toNat h' c.Def rec=ie l h.Scope.toNat h c.Def rec:=by
   funext d;rw[n];exact wN j.f e g he _ _ _
  grind[oQ,rY]
end
structure Hst (l:GLaw) (c:GPayConfig) (t0 t:GAccount) (k:Nat):Prop where
 sc:t.Household.Scope=t0.Household.Scope
 mb:t.Household.Members=t0.Household.Members
 f:t.Household.Facts.length<=t0.Household.Facts.length+k
 p:t.Postings.length<=t0.Postings.length+16*k
 a:t.Appeals.length<=t0.Appeals.length+k
 ok:AccOk l c t0->AccOk l c t
 no:¬AccOk l c t0->t=t0
 lm:t.LastMonth<=max t0.LastMonth (c.FirstMonth+7)
section
variable {l:GLaw} {c:GPayConfig} {t0 t:GAccount} {e:GEvent} {k:Nat}
theorem Hst.up(h:Hst l c t0 t k):Hst l c t0 t (k+1):=⟨h.sc,h.mb,by have:=h.f;omega,by have:=h.p;omega,by have:=h.a;omega,h.ok,h.no,h.lm⟩
theorem Hst.step(hl:LawOk l) (hf:FewR l) (hc:c.Calendar.Holidays.length<=1048576) (n:0<=c.FirstMonth/\c.FirstMonth<=3599) (h0:t0.Household.Facts.length<=40) (h1:t0.Postings.length<=100) (h2:t0.Appeals.length<=100) (h3:t0.LastMonth<=c.FirstMonth+7) (hk:k<12) (h:Hst l c t0 t k) (he:e.Kind=2->e.Month<=3599->e.Month<c.FirstMonth+8) :
 ∃r,Qb l c t e=some r/\Hst l c t0 r.1 (k+1)/\(r.2≠0->r.1=t):=by
 have hf1:=h.f;have hp1:=h.p;have ha1:=h.a;have b:=h.lm;obtain⟨r,u,s⟩:=eR (e:=e) (t:=t) hl hf hc (by omega) (by omega) (by omega);refine⟨r,u,?_,?_⟩
 .rcases s with⟨-,e1⟩|⟨g,i,hd,F,P,A,m,g1,g2,g3⟩
  .rw[e1];exact h.up
  .obtain⟨l1,l2⟩:=g2.lens;have j:AccOk l c t0:=Classical.byContradiction λhn=>by
    have:=h.no hn;rw[this]at i;exact hn i
   have o:P.length<=t.Postings.length+16/\m<=max t0.LastMonth (c.FirstMonth+7):=by
    cases g2 with
    |fact=>exact⟨by omega,b⟩
    |appeal=>exact⟨by omega,b⟩
    |decide=>exact⟨by omega,b⟩
    |waive hk q hq=>exact⟨by rw[Faa];simp,b⟩
    |repay hk Q hQ=>exact⟨by rw[Faa];omega,b⟩
    |pay hk lim S hm hS hlim=>
     have hr:=hm.1.N3 n;have hs:=he hk hr.2.1;have q1:=wy (to:=e.Month) (d:=e.Date) (l:=Ue l c t e.Month e.Date);have q2:=Xt (kind:=2) (d:=e.Date) (om:=λm=>decide (m∈S)) (l:=Ue l c t e.Month e.Date) (rem:=lim);have q3:(Ue l c t e.Month e.Date).length=(e.Month+1-c.FirstMonth).toNat:=by unfold Ue;simp
     exact⟨by rw[Faa,Yl,Faa];omega,by omega⟩
   rw[g1];exact⟨h.sc,h.mb,by simp only[DG];omega,by simp only[DG];omega,by simp only[DG];omega,λ_=>by rw[←g1];exact g3,λhn=>absurd j hn,by simp only[DG];exact o.2⟩
 .intro hn;rcases s with⟨-,e1⟩|⟨g,-⟩
  .exact e1
  .exact absurd g hn
theorem UE(hl:LawOk l) (hf:FewR l) (hc:c.Calendar.Holidays.length<=1048576) (f:0<=c.FirstMonth/\c.FirstMonth<=3599) (k:t0.Household.Facts.length<=40) (m:t0.Postings.length<=100) (h2:t0.Appeals.length<=100) (o:t0.LastMonth<=c.FirstMonth+7) (hk:es.length<=12) (he:∀e∈es,e.Kind=2->e.Month<=3599->e.Month<c.FirstMonth+8) :
 ∃r,Ah l c t0 es=some r/\Hst l c t0 r.1 12:=by
 unfold Ah vr ra za Da;rw[if_pos (by omega),if_pos (by omega),if_pos (by omega),kaa,kaa,kaa,kaa];dsimp only;rcases nB (s:=Gj l c es) (λx=>∃j:Nat,x.2.2.2.2.2.2.2.2.2=(j:Int)/\j<=es.length/\Hst l c t0 ⟨⟨x.1,x.2.1,x.2.2.1,x.2.2.2.1⟩,x.2.2.2.2.1,x.2.2.2.2.2.1,x.2.2.2.2.2.2.1,x.2.2.2.2.2.2.2.1⟩ j) (λx=>(es.length-x.2.2.2.2.2.2.2.2.2).toNat)
  (λb=>Hst l c t0 ⟨⟨b.1,b.2.1,b.2.2.1,b.2.2.2.1⟩,b.2.2.2.2.1,b.2.2.2.2.2.1,b.2.2.2.2.2.2.1,b.2.2.2.2.2.2.2.1⟩ 12) (λ_=>False) (by
  rintro⟨s2,v,w,y,z,A,B,C,s10,s11⟩ ⟨j,g,j2,a⟩;dsimp only at g a;subst g;unfold Gj;dsimp only;by_cases hj:j<es.length
  .obtain⟨r,t,u,r3⟩:=a.step (e:=es[j]) hl hf hc f k m h2 o (by omega) (he _ (taa hj));rw[if_pos (by omega),Ea hj,kaa,t,kaa];by_cases hr:r.2=0
   .rw[if_neg (saa.2 hr),kaa];dsimp only;rw[va (by omega)];exact .inl ⟨_,rfl,⟨j+1,rfl,hj,u⟩,by simp only;omega⟩
   .rw[if_pos hr,kaa];dsimp only;rw[va (by omega)];exact .inl ⟨_,rfl,⟨j+1,rfl,hj,a.up⟩,by simp only;omega⟩
  .rw[if_neg (by omega)];have:∀n,j<=n->Hst l c t0 ⟨⟨s2,v,w,y⟩,z,A,B,C⟩ n:=λn hn=>by
    obtain⟨q,rfl⟩:=Nat.exists_eq_add_of_le hn
    induction q with
    |zero=>exact a
    |succ q p=>exact(p (by omega)).up
   exact .inr (.inl ⟨_,rfl,this 12 (by omega)⟩))
  (x:=(t0.Household.Id,t0.Household.Scope,t0.Household.Members,t0.Household.Facts,t0.Postings,t0.Appeals,t0.Date,t0.LastMonth,0,0))
  ⟨0,rfl,qab _,⟨rfl,rfl,by simp,by simp,by simp,λh=>h,λ_=>rfl,by simp only;omega⟩⟩with⟨b,i,d⟩|⟨b,-,d⟩
 .rw[i];exact⟨_,rfl,d⟩
 .exact d.elim
theorem short_v(a:0<=c.FirstMonth/\c.FirstMonth<=3599) (hm:m<=3599):Jk c m=some (decide (m<c.FirstMonth+8)):=by
 unfold Jk;rw[if_pos a.1];by_cases h:m<c.FirstMonth
 .rw[if_neg (saa.2 h),kaa,decide_eq_true (by omega)]
 .rw[if_pos h,wid (by omega) (by omega),kaa];congr 1;exact decide_eq_decide.2 (by omega)
theorem few_s(l:0<=c.FirstMonth/\c.FirstMonth<=3599):∃b,Tt c es=some b/\(b=true->es.length<=12/\∀e∈es,e.Kind=2->e.Month<=3599->e.Month<c.FirstMonth+8):=by
 obtain⟨n,hn⟩:∃n,n=min es.length 20:=⟨_,rfl⟩;obtain⟨f,a⟩:∃f:Nat->Option Bool,f=λi=>match es[i]? with|some e=>if e.Kind=2/\e.Month<=3599/\¬e.Month<c.FirstMonth+8 then some false else none|none=>none:=⟨_,rfl⟩
 have o:ea (dq c es) 0=some (fi () (ff f n)):=by
  refine kh (λi=>(i:Int)) f n () (λi hi _=>?_) (λ_=>?_)
  .unfold dq;rw[if_pos (by omega),kaa,decide_eq_true (by omega),if_pos (rfl:true=true),Ea (by omega),kaa,va (by omega)];rw[a];dsimp only;rw[naa (by omega)];dsimp only;by_cases d:es[i].Kind=2
   .by_cases g:es[i].Month<=3599
    .rw[if_pos d,if_pos g,short_v l g,kaa,kaa];by_cases k3:es[i].Month<c.FirstMonth+8
     .rw[decide_eq_true k3,if_neg (by simp),if_neg (by simp[k3])];rfl
     .rw[decide_eq_false k3,if_pos (show(!false)=true from rfl),if_pos ⟨d,g,k3⟩];rfl
    .rw[if_pos d,if_neg g,kaa,if_neg (by simp),if_neg (by simp[g])];rfl
   .rw[if_neg d,kaa,if_neg (by simp),if_neg (by simp[d])];rfl
  .unfold dq;by_cases k:(n:Int)<(es.length:Int)
   .rw[if_pos k,kaa,decide_eq_false (by omega),if_neg (by simp)]
   .rw[if_neg k,kaa,if_neg (by simp)]
 unfold Tt;rw[o,kaa]
 cases m:ff f n with
 |some v=>
  obtain⟨i,hi,e1,-⟩:=vb.1 m;rw[a]at e1;dsimp only at e1;rw[naa (by omega)]at e1;dsimp only at e1;split at e1
  .obtain rfl:=Iaa e1;exact⟨false,rfl,λh=>by cases h⟩
  .cases e1
 |none=>
  by_cases j:(es.length:Int)<=12
  case neg=>exact⟨false,by show(laa (if(es.length:Int)<=12 then _ else _) _)=_;rw[if_neg j];rfl,λh=>by cases h⟩
  refine⟨true,by show(laa (if(es.length:Int)<=12 then _ else _) _)=_;rw[if_pos j,kaa,decide_eq_true l.1],λ_=>⟨by omega,λe hm d g=>?_⟩⟩;obtain⟨i,hi,rfl⟩:=waa hm;have:=sb.1 m i (by omega);rw[a]at this;dsimp only at this;rw[naa hi]at this;dsimp only at this;by_cases k3:es[i].Month<c.FirstMonth+8
  .exact k3
  .rw[if_pos ⟨d,g,k3⟩]at this;cases this
end
def J6(a b:GFact):Bool:=(a.Id==b.Id)&&((a.Member==b.Member)&&((a.Input==b.Input)&&((a.Value.Kind==b.Value.Kind)&&((a.Value.Enum==b.Value.Enum)&&((a.Value.N==b.Value.N)&&((a.Valid.From==b.Valid.From)&&((a.Valid.To==b.Valid.To)&&(a.Recorded==b.Recorded))))))))
theorem eqF_eq{x y:GFact}(h:J6 x y=true):x=y:=by
 unfold J6 at h;simp only[Bool.and_eq_true,beq_iff_eq]at h;obtain⟨a1,a2,a3,⟨v1,v2,v3⟩,⟨d1,d2⟩,r⟩:=x;obtain⟨b1,b2,b3,⟨w1,w2,w3⟩,⟨e1,e2⟩,s⟩:=y
 simp_all
theorem eaa{b:List GFact}(hi:i<a.length) (hb:b.length<=1048576):ea (dh a b (i:Int)) (false,0)=some (.inl (b.any (J6 a[i]))):=by
 refine Od (λk=>((b.take k).any (J6 a[i]),(k:Int))) b.length _ (λk hk=>?_) ?_ (by simp)
 .unfold dh;dsimp only;rw[if_pos (by omega),Bc hk,List.any_append,va (by omega)]
  cases h:(b.take k).any (J6 a[i])with
  |true=>rw[if_neg (by simp),kaa];simp
  |false=>rw[if_pos rfl,Ea hi,kaa,Ea hk,kaa,kaa];simp[J6]
 .unfold dh;dsimp only;rw[if_neg (by omega),aab]
theorem ON{b:List GFact}(ha:a.length<=1048576) (hb:b.length<=1048576):∃v,Il a b=some v/\(v=true->(∀f∈a,f∈b)/\a.length=b.length):=by
 have e:ea (fh a b) 0=some (fi () (ff (λi=>match a[i]? with|some f=>if b.any (J6 f)=false then some false else none|none=>none) a.length)):=by
  refine kh (λi=>(i:Int)) _ a.length () (λi hi _=>?_) (λ_=>?_)
  .unfold fh;rw[if_pos (by omega),eaa hi hb,kaa,naa hi];dsimp only;by_cases h:b.any (J6 a[i])=false
   .rw[if_pos h,if_pos h];rfl
   .rw[if_neg h,if_neg h,va (by omega)];rfl
  .simp[fh]
 unfold Il;rw[e,kaa]
 cases d:ff (λi=>match a[i]? with|some f=>if b.any (J6 f)=false then some false else none|none=>none) a.length with
 |some v=>
  obtain⟨i,hi,c,-⟩:=vb.1 d;rw[naa hi]at c;dsimp only at c;split at c
  .obtain rfl:=Iaa c;exact⟨false,rfl,λh=>by cases h⟩
  .cases c
 |none=>
  refine⟨_,rfl,λh=>⟨λf hf=>?_,?_⟩⟩
  .obtain⟨i,hi,rfl⟩:=waa hf;have:=sb.1 d i hi;rw[naa hi]at this;dsimp only at this;by_cases hx:b.any (J6 a[i])=false
   .rw[if_pos hx]at this;cases this
   .rw[Bool.not_eq_false,Rac]at hx;obtain⟨y,g,j⟩:=hx;rw[eqF_eq j];exact g
  .simp only[beq_iff_eq]at h;omega
section
variable {l:GLaw} {c:GPayConfig} {t:GAccount} {d:Int}
theorem mV{f:GAccount}(hl:LawOk l) (hf:FewR l) (u:t.Household.Facts.length<=64) (hc:c.Calendar.Holidays.length<=1048576) (e:AccOk l c t) (v:ya l c t t.LastMonth d=some B) (h2:BalL c t t.LastMonth B) (s:f=DG t d t.Household.Facts (t.Postings++jv d B) t.Appeals t.LastMonth) (w:AccOk l c f) (hk:∀p∈t.Postings,p.Kind≠4) (hA:t.Appeals=[]):We l c f=some true:=by
 obtain⟨f1,f2⟩:=Sp e.cf;obtain⟨B',g1,g2,g3⟩:=pF hl hf u (by omega) e d;rw[v]at g1;obtain rfl:=Iaa g1;unfold We;have hr:f.Household=t.Household/\f.LastMonth=t.LastMonth/\f.Date=d:=by rw[s];exact⟨rfl,rfl,rfl⟩
 have hlr:=Uv f1 e;have hl1:-1<=t.LastMonth:=by
  rcases e.last with h|h
  .omega
  .have:=h.N3 f1;omega
 rw[hr.1,hr.2.1,hr.2.2,wid (n:=t.LastMonth+1) (by omega) (by omega)];by_cases hx:t.LastMonth+1<c.FirstMonth
 .rw[CG hx f1.1,kaa,if_neg (by omega),kaa,if_neg (by simp),Va (b:=()) (by unfold Ac;rw[if_neg (by simp)])];rfl
 .rw[Gu hl hf u (by omega) (by omega),kaa];obtain⟨n,hn⟩:∃n,n=(t.LastMonth+1-c.FirstMonth).toNat:=⟨_,rfl⟩;rw[←hn];obtain⟨A,g⟩:∃A,A=(xaa n).map λ(j:Nat)=>fv l t.Household c (c.FirstMonth+j) d:=⟨_,rfl⟩;rw[←g];have o:A.length=n:=by rw[g];simp
  have q:(if c.FirstMonth<=t.LastMonth then some ((A.length:Int) !=aa .i64 (t.LastMonth+1-c.FirstMonth))else some false)=some false:=by
   split
   .rw[wid (by omega) (by omega),o];simp only[Vaa,bne_eq_false_iff_eq];omega
   .rfl
  rw[q,kaa,if_neg (by simp)];have r:ea (Ac f A) 0=some (.inl ()):=by
   refine Od (λi=>(i:Int)) A.length _ (λi hi=>?_) ?_ rfl
   .have k:A[i]=fv l t.Household c (c.FirstMonth+(i:Int)) d:=by
     simp only[g,aac,Vac]
    unfold Ac;rw[if_pos (by omega),Ea hi,kaa];by_cases a:A[i].Code=0
    .rw[if_pos a,aT w.led,kaa,kaa];have m:B=Ue l c t t.LastMonth d:=by rw[g3,if_neg (by omega)]
     have:=aK (d:=d) e (by rw[←m];exact h2) hk hA (j:=i) (by omega) (by rw[←k];exact a);rw[←k,←m]at this;rw[show A[i].Month=c.FirstMonth+(i:Int) by rw[k,Kq],show f.Postings=t.Postings++jv d B by rw[s];rfl,this,if_neg (by simp),va (by omega)]
    .rw[if_neg a,kaa,if_neg (by simp),va (by omega)]
   .simp[Ac]
  rw[r];rfl
end
theorem New_s(hh:h.Facts.length<=1048576):∃b,Cf h=some ⟨h,[],[],b,-1⟩:=by
 unfold Cf ra;rw[if_pos (by omega),kaa];rcases nB (s:=Om h.Facts) (λx=>∃j:Nat,x.2=(j:Int)) (λx=>(h.Facts.length-x.2).toNat) (λ_=>True) (λ_=>False) (by
  rintro⟨a,i⟩ ⟨j,c⟩;dsimp only at c;subst c;unfold Om;dsimp only;by_cases hj:j<h.Facts.length
  .rw[if_pos (by omega),Ea hj,kaa,va (by omega)];exact .inl ⟨_,rfl,⟨j+1,rfl⟩,by simp only;omega⟩
  .rw[if_neg (by omega)];exact .inr (.inl ⟨_,rfl,trivial⟩)) (x:=(0,0)) ⟨0,rfl⟩with⟨b,d,-⟩|⟨b,-,e⟩
 .rw[d];exact⟨b,rfl⟩
 .exact e.elim
section
variable {l:GLaw} {c:GPayConfig} {t:GAccount} {d:Int}
theorem xX(hl:LawOk l) (hf:FewR l) (hc:c.Calendar.Holidays.length<=1048576) (h:t.Household.Facts.length<=64) (h2:t.Postings.length<=3000) (ht:AccOk l c t) (hd:t.Date<=d/\d<=109572):∃k,Za l c t d=some (k,0):=by
 obtain⟨n,i,j⟩:=Vf hl hc (t:=t) (by omega) (by omega) (by have:=ht.rL;omega);have hd0:=ht.date;have ha:=ht.rL;obtain⟨B,g,e,b3⟩:=pF hl hf h hc ht d;have hb:=λb hb=>(e.b b hb).1;have l1:=Xab (Tz d) B;have l3:=Xab (Uz d) B;have f:=e.len;unfold Za;rw[i,j.2 ht,kaa,if_neg (by simp),if_pos (by omega),kaa,decide_eq_false (by omega),if_neg (by simp),if_neg (by omega),g,kaa,kP hb f];dsimp only;rw[kaa];dsimp only;rw[jP hb f (by omega),kaa];dsimp only;have hq:(jv d B).length<=240:=by unfold jv;rw[Faa];omega
 rw[show B.filterMap (Tz d)++B.filterMap (Uz d)=jv d B from rfl,wid (by omega) (by omega),if_neg (by omega)];have a:Oj t=some (t.Household.Facts,t.Postings,t.Appeals):=vF (by omega) (by omega) (by omega);rw[a,kaa];dsimp only;rw[Kh (by omega),kaa];exact⟨_,rfl⟩
end
theorem sub_eq:∀{a b:List GFact},a.Nodup->(∀f∈a,f∈b)->a.length=b.length->∀f∈b,f∈a
 |[],b,_,_,hl=>λf hf=>by
  rw[Laa hl.symm]at hf;exact hf
 |x::a,b,hn,h,hl=>λf hf=>by
  have d:=vab.1 hn;obtain⟨j,k,rfl⟩:=List.append_of_mem (h x (by simp));have i:=sub_eq (a:=a) (b:=j++k) d.2 (λy g=>by
   have c:=h y (by simp[g]);have h2:y≠x:=λe=>d.1 (e▸g);simp only[Saa,lab]at c⊢;rcases c with c|c|c
   .exact .inl c
   .exact absurd c h2
   .exact .inr c) (by simp only[Faa,qaa]at hl⊢;omega)
  simp only[Saa,lab]at hf⊢;rcases hf with hf|hf|hf
  .exact .inr (i f (by simp[hf]))
  .exact .inl hf
  .exact .inr (i f (by simp[hf]))
theorem P0{b:List GFact}(ha:FactsOk a) (h:∀f∈a,f∈b) (hl:a.length=b.length):∀f,f∈a↔f∈b:=by
 have hn:a.Nodup:=by
  rw[List.Nodup,Iab];intro i j hi hj c e;exact ha.id i j hi hj c (by rw[e])
 exact λf=>⟨h f,sub_eq hn h hl f⟩
theorem fR{l:GLaw}{c:GPayConfig}{t:GAccount}(hl:LawOk l) (hf:FewR l) (hc:c.Calendar.Holidays.length<=1048576) (f:t.Household.Facts.length<=64) (h2:t.Postings.length<=3000) (ht:AccOk l c t) (hd:t.Date<=d/\d<=109572) (hk:∀p∈t.Postings,p.Kind≠4) (hA:t.Appeals=[]) :
 ∃x,Za l c t d=some (x,0)/\We l c x=some true/\x.Household=t.Household/\x.LastMonth=t.LastMonth/\Hu x.Postings/\
  (c.FirstMonth<=t.LastMonth->∀j:Nat,j<(t.LastMonth+1-c.FirstMonth).toNat->(fv l t.Household c (c.FirstMonth+(j:Int)) d).Code=0->fb x.Postings (c.FirstMonth+(j:Int))=some (fv l t.Household c (c.FirstMonth+(j:Int)) d).Cents):=by
 obtain⟨x,i⟩:=xX hl hf hc f h2 ht hd;obtain⟨r,h,m⟩:=sE (d:=d) hl hf hc f (t:=t) (by omega) (by have:=ht.rL;omega);rw[i]at h;obtain rfl:=Iaa h;rcases m with⟨k,-⟩|⟨-,-,-,B,g,h2,b,e⟩
 .exact absurd rfl k
 dsimp only at b e;refine⟨x,i,mV hl hf f hc ht g h2 b e hk hA,by rw[b];rfl,by rw[b];rfl,e.led,λhm j hj a=>?_⟩;obtain⟨f1,-⟩:=Sp ht.cf;obtain⟨B',g1,g2,g3⟩:=pF hl hf f hc ht d;rw[g]at g1;obtain rfl:=Iaa g1;rw[if_neg (by omega)]at g3;rw[aT e.led,show x.Postings=t.Postings++jv d B by rw[b];rfl,g3];rw[aK ht (by rw[←g3];exact h2) hk hA hj a]
theorem EH(I:Wb=some true) {l:GLaw}(Z:iR l) (Q:vI l) (h:GHousehold) (a b:List GEvent):Gd l h a b=some true:=by
 unfold Gd;obtain⟨c,B⟩:∃c,c=GPayConfig.mk 0 0 1 300000 0 1195 0 (GCalendar.mk 0 ([])):=⟨_,rfl⟩;rw[←B];have Y:c.FirstMonth=1195:=by rw[B]
 have k:0<=c.FirstMonth/\c.FirstMonth<=3599:=by omega
 have e:c.Calendar.Holidays.length<=1048576:=by rw[B];simp
 obtain⟨V,e0,e1⟩:=bt l;obtain⟨f1,g1,g2⟩:=few_s (c:=c) (es:=a) k;obtain⟨f2,k1,k2⟩:=few_s (c:=c) (es:=b) k;rw[e0,I,kaa]
 cases V with
 |false=>rfl
 |true=>
 have F:=e1 rfl;have hf:FewR l:=⟨F.nt,F.ns,F.rows Z,λs P=>(F.s s P).rules⟩;have hl:=F.ok Q;rw[if_pos (rfl:true=true)];by_cases S:(h.Facts.length:Int)<=40
 case neg=>rw[show wb h=some false by unfold wb;rw[decide_eq_false S]];rfl
 rw[show wb h=some true by unfold wb;rw[decide_eq_true S],kaa,if_pos (rfl:true=true),g1,kaa]
 cases f1 with
 |false=>rfl
 |true=>
 rw[if_pos (rfl:true=true),k1,kaa]
 cases f2 with
 |false=>rfl
 |true=>
 rw[kaa,if_neg (by simp)];obtain⟨K,L⟩:=g2 rfl;obtain⟨M,N⟩:=k2 rfl;obtain⟨W,T⟩:=New_s (h:=h) (by omega);obtain⟨t0,G⟩:∃t0:GAccount,t0=⟨h,[],[],W,-1⟩:=⟨_,rfl⟩;rw[←G]at T;have H:t0.Household.Facts.length<=40/\t0.Postings.length=0/\t0.Appeals.length=0/\t0.LastMonth = -1:=by rw[G];exact⟨by simp only;omega,rfl,rfl,rfl⟩
 obtain⟨s,s1,s2⟩:=UE (t0:=t0) hl hf e k H.1 (by omega) (by omega) (by omega) K L;obtain⟨u,u1,E⟩:=UE (t0:=t0) hl hf e k H.1 (by omega) (by omega) (by omega) M N;rw[T,kaa,s1,kaa,kaa,u1,kaa];have sf:=s2.f;have uf:=E.f;have sp:=s2.p;have up:=E.p;obtain⟨p1,q1,q2⟩:=LK (t:=s.1) (by omega);obtain⟨p2,q3,q4⟩:=LK (t:=u.1) (by omega);obtain⟨v,v1,v2⟩:=ON (a:=s.1.Household.Facts) (b:=u.1.Household.Facts) (by omega) (by omega);rw[q1,kaa]
 cases p1 with
 |false=>rfl
 |true=>
 rw[if_pos (rfl:true=true),q3,kaa]
 cases p2 with
 |false=>rfl
 |true=>
 rw[if_pos (rfl:true=true)];by_cases R:s.1.LastMonth=u.1.LastMonth
 case neg=>rw[if_neg R];rfl
 rw[if_pos R,v1,kaa]
 cases v with
 |false=>rfl
 |true=>
 rw[kaa,if_neg (by simp)];obtain⟨sk,sA⟩:=q2 rfl;obtain⟨uk,uA⟩:=q4 rfl;obtain⟨m1,m2⟩:=v2 rfl;by_cases hA:AccOk l c t0
 case neg=>
  rw[s2.no hA,E.no hA];obtain⟨r,r1,r2⟩:=sE (d:=max t0.Date t0.Date) hl hf e (t:=t0) (by omega) (by omega) (by omega);rw[r1,kaa,kaa,if_neg (by simp)];rcases r2 with⟨X,-⟩|⟨-,C,-⟩
  .rw[if_pos X];rfl
  .exact absurd C hA
 have o:=s2.ok hA;have D:=E.ok hA;have sd:=o.date;have ud:=D.date;obtain⟨d,hd⟩:∃d,d=max s.1.Date u.1.Date:=⟨_,rfl⟩;rw[←hd];obtain⟨x,x1,x2,x3,x4,x5,x6⟩:=fR (d:=d) hl hf e (by omega) (by omega) o (by omega) sk sA;obtain⟨y,y1,y2,y3,y4,y5,y6⟩:=fR (d:=d) hl hf e (by omega) (by omega) D (by omega) uk uA;rw[x1,kaa,y1,kaa,if_neg (by simp),if_neg (by simp)];dsimp only;have J:FactsOk s.1.Household.Facts:=by
  obtain⟨i',C⟩:=XA o.hv;exact C.f
 have q:∀m,fv l u.1.Household c m d=fv l s.1.Household c m d:=λm=>
  cY hl hf (by omega) (by omega) e (by rw[E.sc,s2.sc]) (by rw[E.mb,s2.mb]) o.hv D.hv (P0 J m1 m2) m d
 have hlr:=Uv k o;have hl1:-1<=s.1.LastMonth:=by
  rcases o.last with h|h
  .omega
  .have:=h.N3 k;omega
 have O:∃A,zb l x.Household c 1195 (aa .i64 (x.LastMonth+1)) d=some A/\ea (Bb (x,0) (y,0) A) 0=some (.inl ()):=by
  rw[x3,x4,wid (n:=s.1.LastMonth+1) (by omega) (by omega),←Y];by_cases hx:s.1.LastMonth+1<c.FirstMonth
  .exact⟨[],CG hx k.1 _,Va (by unfold Bb;rw[if_neg (by simp)])⟩
  .refine⟨_,Gu hl hf (by omega) e (by omega) d,?_⟩;obtain⟨A,w⟩:∃A,A=(xaa (s.1.LastMonth+1-c.FirstMonth).toNat).map λ(j:Nat)=>fv l s.1.Household c (c.FirstMonth+j) d:=⟨_,rfl⟩;rw[←w];have hAl:A.length=(s.1.LastMonth+1-c.FirstMonth).toNat:=by rw[w];simp
   refine Od (λi=>(i:Int)) A.length _ (λi hi=>?_) ?_ rfl
   .have z:A[i]=fv l s.1.Household c (c.FirstMonth+(i:Int)) d:=by
     simp only[w,aac,Vac]
    unfold Bb;rw[if_pos (by omega),Ea hi,kaa];by_cases g:A[i].Code=0
    .have z1:=x6 (by omega) i (by omega) (by rw[←z];exact g);have U:=y6 (by omega) i (by omega) (by rw[q,←z];exact g);rw[q]at U;rw[if_pos g,show A[i].Month=c.FirstMonth+(i:Int) by rw[z,Kq],z1,kaa,U,kaa,kaa,if_neg (by simp),va (by omega)]
    .rw[if_neg g,kaa,if_neg (by simp),va (by omega)]
   .simp[Bb]
 obtain⟨A,A1,A2⟩:=O;rw[A1,kaa,A2,kaa];dsimp only;rw[x2,kaa,if_pos (rfl:true=true),y2,kaa,if_pos (rfl:true=true)];rfl
end Go.Proofs.Dev
