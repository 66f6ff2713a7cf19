/-
  The functions as plain partial functions, and plain lemmas about them: no condition.
-/
import Derived.Test.YtmhfebelfmgckaaGreatDoorPB
open Bool renaming and_eq_true->Laa,eq_false_iff->lac,false_eq_true->Eaa,not_true->Rab,true_and->Jab,true_eq_false->Raa
open Classical renaming not_not->Haa
open Decidable renaming not_not->Sab
open Int renaming add_mul_ediv_left->Wac,add_mul_emod_self_left->Fac,ediv_eq_zero_of_lt->Rac,ediv_lt_of_lt_mul->fae,ediv_nonneg->Pae,emod_eq_of_lt->wad,emod_lt_of_pos->Sac,emod_nonneg->rad,eq_ofNat_of_zero_le->Saa,le_of_lt->daf,mul_ediv_add_emod->Xac,mul_le_mul_of_nonneg_left->Bad,mul_tdiv_add_tmod->gae,natAbs_mul->Qad,natCast_ediv->Mae,natCast_mul->Fad,natCast_one->Gad,natCast_zero->Cad,reduceBEq->Oaa,reduceEq->Jaa,reduceLE->Iab,tdiv->Naa,tdiv_eq_ediv_of_nonneg->had,tmod->Taa,tmod_lt_of_pos->Nad,toNat_natCast->Xab
open List renaming all_eq_true->fab,append_assoc->Yab,drop_eq_getElem_cons->mab,ext_getElem->iac,filter_append->uab,filter_eq_nil_iff->Eac,getElem?_append_right->jac,getElem?_eq_getElem->Baa,getElem_mem->Iaa,getElem_of_mem->Maa,length_append->kab,length_cons->bab,length_filter_le->Yaa,length_nil->sab,length_replicate->Zab,length_singleton->Cab,mem_append->tab,mem_of_mem_take->uac,nil_append->qab,pairwise_iff_getElem->Vab,range->Kaa,replicate->Daa,replicate_succ->jab,set_append_right->Iac,set_cons_zero->eac,take_add_one->Xaa
open Nat renaming add_sub_cancel->Dae,div_add_mod->Wab,div_le_self->fac,div_lt_iff_lt_mul->qac,div_mul_le_self->nad,eq_zero_or_pos->Oad,le_refl->Paa,le_trans->Bab,lt_or_ge->Gab,mod_lt->hac,mul_le_mul->aac,mul_le_mul_right->Zaa,strongRecOn->dad,sub_self->wac,zero_add->Qab
open Option renaming bind->Aaa,bind_some->zaa
open Option.some renaming injEq->dab
set_option linter.all false
set_option maxRecDepth 10000
set_option maxHeartbeats 1000000
namespace Go.Proofs.Dev
open Go Go.Tm
variable {a b v:GValue}{α β:Type}{step:List Int×Int->Option (Ex (List Int×Int) (List Int) Unit)}{x0:List GDateRange}{x y d mode N w op:Int}{q:List Int}{c:Prop}{j r z len:Nat}{s:GScope}{o:Option Bool}{args:List GValue}{out:Int->Int}{t2:List Bool}
def lN(r:GDateRange):Bool:=decide (0<=r.n)&&(decide (r.To<=109573)&&decide (r.n<r.To))
theorem Dz(r:GDateRange):vm r=some (lN r):=by
 grind[vm,xd,lN]
theorem yw(r:GDateRange):Tc r=some (lN r):=by
 grind[Tc,xd,lN]
theorem Vz(r:GDateRange):zj r=some (lN r):=by
 grind[zj,nf,lN]
theorem OG(r:GDateRange):Qp r=some (lN r):=by
 grind[Qp,nf,lN]
def ends:List GDateRange->List Int
 |[]=>[]
 |r::l=>(if lN r=true then [r.n,r.To]else [])++ends l
theorem NJ{a b:List GDateRange}:ends (a++b)=ends a++ends b:=by
 induction a with
 |nil=>rfl
 |cons x l ih=>grind[ends]
theorem jr:∀l:List GDateRange,(ends l).length<=2*l.length
 |[]=>by simp[ends]
 |r::l=>by
  have:=jr l
  grind[ends]
theorem Xf{l:List α}{i:Nat}(h:i<l.length):l.take (i+1)=l.take i++[l[i]]:=by
 simp
theorem Ew{n:Nat}{l:List α}(hn:n=l.length) {step:List β×Int->Option (Ex (List β×Int) (List β) Unit)}(g:List α->List β) (x0:List β)
 (a:∀i (h:i<l.length),step (x0++g (l.take i),(i:Int))=some (.go (x0++g (l.take (i+1)),((i+1:Nat):Int)))) (hend:∀x,step (x,(n:Int))=some (.brk x)) (h0:g []=[]):ca step (x0,0)=some (.inl (x0++g l)):=by
 subst hn;refine kf (λi=>(x0++g (l.take i),(i:Int))) l.length _ (λi hi=>a i hi) ?_ (by grind)
 simp_all
theorem OP{l:List GDateRange}(hl:l.length<=1048576) (a:step=Ve l\/step=Qd l):ca step ([],0)=some (.inl (ends l)):=by
 have h:=Ew (step:=step) (l:=l) rfl ends [] (λi hi=>by
  have h1:=jr (l.take i);have h2:(l.take i).length<=l.length:=by grind
  rw[Xf hi,NJ];rcases a with rfl|rfl
  .unfold Ve;dsimp only;rw[if_pos (by omega),ya hi,zaa,yw,zaa,sa (by omega)]
   grind[ends,uf]
  .unfold Qd;dsimp only;rw[if_pos (by omega),ya hi,zaa,yw,zaa,sa (by omega)]
   grind[ends,uf]) (λx=>by
  rcases a with rfl|rfl
  all_goals grind[Ve,Qd]) rfl
 simp_all
theorem XW{l:List Int}(h:l.length<=4194304):((Ya l).bind λx=>(La x).bind λy=>some y)=some (Pd l):=by
 unfold Ya La;rw[if_pos (by omega),zaa,if_pos (by simp;omega),zaa,Oy]
theorem kA{l:List GDateRange}(hl:l.length<=1048576):sh l=some (Pd (ends l)):=by
 have:=jr l;unfold sh;rw[OP hl (.inl rfl),zaa]
 grind[XW]
theorem D5{l:List GDateRange}(hl:l.length<=1048576):Xg l=some (Pd (ends l)):=by
 have:=jr l;unfold Xg;rw[OP hl (.inr rfl),zaa]
 grind[XW]
def Ii(x:Int):Bool:=decide (1<=x)&&decide (x<=109572)
def known(t1:Int) (f:GFact):Bool:=decide (f.af<=t1)&&lN f.w
def CE(t1:Int) (l:List GFact):List GDateRange:=(l.filter (known t1)).map (·.w)
theorem SI(t1:Int) (l:List GFact):(CE t1 l).length<=l.length:=by
 grind[CE]
theorem knR_app{t1:Int}{a b:List GFact}:CE t1 (a++b)=CE t1 a++CE t1 b:=by simp[CE]
theorem Vw(l:List Int):(Pd l).length<=l.length:=(Gg l).2.1
theorem Cw{l:List GFact}(t1:Int) (hl:l.length<=65536):ee l t1=some ((Pd (ends (CE t1 l))).filter Ii):=by
 unfold ee;have e1:=Ew (step:=df l t1) (l:=l) rfl (CE t1) [] (λi hi=>by
  have c:=SI t1 (l.take i);have h2:(l.take i).length<=l.length:=by grind
  have a:CE t1 [l[i]]=if known t1 l[i]=true then [l[i].w]else []:=by
   grind[CE]
  rw[Xf hi,knR_app,a];have ha:=uf (b:=16) (show((CE t1 (l.take i)).length + [l[i].w].length)*16<=140737488355328 by grind);generalize CE t1 (l.take i)=w at *;unfold df;dsimp only;rw[if_pos (by omega),ya hi,zaa,Dz,sa (by omega)]
  grind[known]) (λx=>by grind[df]) rfl
 rw[qab]at e1;have hk:=SI t1 l;have he:=jr (CE t1 l);have hd:=Vw (ends (CE t1 l));rw[e1,zaa];dsimp only;rw[kA (by omega),zaa];generalize Pd (ends (CE t1 l))=q at *;have e2:=Ew (step:=bf q) (l:=q) rfl (λl=>l.filter Ii) [] (λi hi=>by
  have c:=Yaa Ii (q.take i);have h2:(q.take i).length<=q.length:=by grind
  rw[Xf hi,uab];unfold bf;dsimp only;rw[if_pos (by omega),ya hi,zaa,sa (by omega)]
  grind[Ii,uf]) (λx=>by grind[bf]) rfl
 simp_all
theorem WQ{σ β ρ:Type}{step:σ->Option (Ex σ β ρ)}(I:Nat->σ->Prop) (n:Nat) (Q:β->Prop) (c:∀j s,j<n->I j s->∃s',step s=some (.go s')/\I (j+1) s') (a:∀s,I n s->∃b,step s=some (.brk b)/\Q b) :
 ∀(k j:Nat) (s:σ),j+k=n->I j s->∃b,ca step s=some (.inl b)/\Q b
 |0,j,s,h,hi=>by
  rw[Nat.add_zero]at h;grind[vc]
 |k+1,j,s,h,hi=>by
  obtain⟨s',h1,h2⟩:=c j s (by omega) hi;obtain⟨b,h3,h4⟩:=WQ I n Q c a k (j+1) s' (by omega) h2
  grind[yg]
def qw(l:List GTable):List GDateRange:=l.flatMap λt=>t.Rows.map (·.w)
def ow(l:List GScope):List GDateRange:=l.flatMap λs=>s.f.map (·.w)
theorem Nx:∀{l:List GTable},(∀t∈l,t.Rows.length<=150)->(qw l).length<=150*l.length
 |[],_=>by simp[qw]
 |t::l,h=>by
  have h1:=Nx (l:=l) λx hx=>h x (by grind)
  grind[qw]
theorem Ix:∀{l:List GScope},(∀t∈l,t.f.length<=60)->(ow l).length<=60*l.length
 |[],_=>by simp[ow]
 |t::l,h=>by
  have h1:=Ix (l:=l) λx hx=>h x (by grind)
  grind[ow]
theorem SR{a b:List GTable}:qw (a++b)=qw a++qw b:=by simp[qw]
theorem LR{a b:List GScope}:ow (a++b)=ow a++ow b:=by simp[ow]
theorem TR{t:GTable}:qw [t]=t.Rows.map (·.w):=by simp[qw]
theorem MR{t:GScope}:ow [t]=t.f.map (·.w):=by simp[ow]
theorem cW{l:List α}(v:α->GDateRange) (hx:x0.length+l.length<=1048576) {step:List GDateRange×Int->Option (Ex (List GDateRange×Int) (List GDateRange) Unit)}
 (hgo:∀i (h:i<l.length) x,step (x,(i:Int))=(app 16 x [v l[i]]).bind λy=>some (.go (y,aa .i64 ((i:Int)+1)))) (a:∀x,step (x,(l.length:Int))=some (.brk x)):ca step (x0,0)=some (.inl (x0++l.map v)):=by
 refine Ew (step:=step) (l:=l) rfl (λl=>l.map v) x0 (λi hi=>?_) a rfl
 grind[uf,sa,Xf]
structure FewR (l:GLaw):Prop where
 nt:l.Tables.length<=9
 ns:l.e.length<=5
 t:∀t∈l.Tables,t.Rows.length<=150
 s:∀s∈l.e,s.f.length<=60
variable {l:List Int}
theorem UF{l:List α}{i:Nat}{x:α}(h:x∈l.take i):x∈l:=uac h
theorem mY{l:GLaw}(h:FewR l):ca (tc l) ([],0)=some (.inl (qw l.Tables)):=by
 have hnt:=h.nt;have:=Ew (step:=tc l) (l:=l.Tables) rfl qw [] (λi hi=>by
  have h1:=Nx (l:=l.Tables.take i) λx hx=>h.t x (UF hx);have h2:(l.Tables.take i).length<=l.Tables.length:=by grind
  have h3:=h.t l.Tables[i] (by simp);unfold tc;dsimp only;rw[if_pos (by omega),ya hi,zaa,qab,cW (l:=l.Tables[i].Rows) (·.w) (by omega) (λk hk x=>by simp_all[Zg,ya]) (λx=>by grind[Zg]),zaa,sa (by omega),Xf hi,SR,TR];rfl) (λx=>by grind[tc]) rfl
 simp_all
theorem lY{l:GLaw}(h:FewR l) (hx:x0.length<=10000):ca (qc l) (x0,0)=some (.inl (x0++ow l.e)):=by
 have hns:=h.ns;refine Ew (step:=qc l) (l:=l.e) rfl ow x0 (λi hi=>?_) (λx=>by grind[qc]) rfl;have h1:=Ix (l:=l.e.take i) λx hx=>h.s x (UF hx);have h2:(l.e.take i).length<=l.e.length:=by grind
 have h3:=h.s l.e[i] (by simp);unfold qc;dsimp only;rw[if_pos (by omega),ya hi,zaa,cW (l:=l.e[i].f) (·.w) (by grind) (λk hk x=>by simp_all[qg,ya]) (λx=>by grind[qg]),zaa,sa (by omega),Xf hi,LR,MR,Yab]
theorem wR{l:GLaw}(h:FewR l):ca (xe l) ([],0)=some (.inl (qw l.Tables)):=by
 have hnt:=h.nt;have:=Ew (step:=xe l) (l:=l.Tables) rfl qw [] (λi hi=>by
  have h1:=Nx (l:=l.Tables.take i) λx hx=>h.t x (UF hx);have h2:(l.Tables.take i).length<=l.Tables.length:=by grind
  have h3:=h.t l.Tables[i] (by simp);unfold xe;dsimp only;rw[if_pos (by omega),qab,cW (l:=l.Tables[i].Rows) (·.w) (by omega) (λk hk x=>by simp_all[Rk,ya]) (λx=>by grind[Rk,ya]),zaa,sa (by omega),Xf hi,SR,TR];rfl) (λx=>by grind[xe]) rfl
 simp_all
theorem vR{l:GLaw}(h:FewR l) (hx:x0.length<=10000):ca (we l) (x0,0)=some (.inl (x0++ow l.e)):=by
 have hns:=h.ns;refine Ew (step:=we l) (l:=l.e) rfl ow x0 (λi hi=>?_) (λx=>by grind[we]) rfl;have h1:=Ix (l:=l.e.take i) λx hx=>h.s x (UF hx);have h2:(l.e.take i).length<=l.e.length:=by grind
 have h3:=h.s l.e[i] (by simp);unfold we;dsimp only;rw[if_pos (by omega),cW (l:=l.e[i].f) (·.w) (by grind) (λk hk x=>by simp_all[Nj,ya]) (λx=>by grind[Nj,ya]),zaa,sa (by omega),Xf hi,LR,MR,Yab]
theorem tQ(x:Int):Lc x=some (!Ii x):=by
 grind[Lc,Ii]
theorem filter_all(h:∀i (hi:i<l.length),Ii l[i]=true):l.filter Ii=l:=by
 rw[List.filter_eq_self];intro x hx;obtain⟨i,hi,rfl⟩:=Maa hx
 simp_all
theorem E5(hq:q.length<=1048576):∃c,Yg q=some (c,q.filter Ii):=by
 unfold Yg Gl;have p:=xb (step:=Sd q) (x0:=0) (λi=>(i:Int)) (λi=>match q[i]? with|some x=>if Ii x=true then none else some (i:Int)|none=>none) q.length () (λi hi _=>by
  unfold Sd;rw[if_pos (by omega),ya hi,zaa,tQ,zaa,sa (by omega)]
  grind[aD]) (λ_=>by grind[Sd])
 rw[p]
 cases hf:ff (λi=>match q[i]? with|some x=>if Ii x=true then none else some (i:Int)|none=>none) q.length with
 |none=>
  simp_all[Eb,ab,filter_all]
 |some v=>
  obtain⟨k,r,l,k3⟩:=Pa.1 hf;rw[Baa r]at l;have hb:Ii q[k]=false:=by simp_all
  simp[hb]at l;subst l;have hk:(q.take k).filter Ii=q.take k:=filter_all λi hi=>by
   grind
  simp only[Eb,zaa];rw[if_neg (by omega),sa (by omega)];obtain⟨⟨c,n⟩,hl,hc⟩:=WQ (step:=Td) (λj s=>s.2.2=(j:Int)/\s.1.length=q.length/\s.2.1=(((q.take j).filter Ii).length:Int)/\s.1.take ((q.take j).filter Ii).length=(q.take j).filter Ii/\s.1.drop j=q.drop j) q.length
   (λb=>b.1.length=q.length/\b.2=((q.filter Ii).length:Int)/\b.1.take (q.filter Ii).length=q.filter Ii) (λj s hj ⟨f,m,g,h,a⟩=>by
    obtain⟨c,n,jj⟩:=s;dsimp only at f m g h a;subst f g;have hle:=Yaa Ii (q.take j);have hlt:(q.take j).length=j:=by grind
    have d:c[j]'(by omega)=q[j]:=by
     have o:(c.drop j)[0]?=(q.drop j)[0]?:=by rw[a]
     grind
    have hd:c.drop (j+1)=q.drop (j+1):=by
     have:=congrArg (List.drop 1) a;simpa using this
    unfold Td;dsimp only;rw[if_pos (by omega),ya (show j<c.length by omega),zaa,tQ,zaa,d,sa (show j<4611686018427387904 by omega),Xf hj,uab];cases hb:Ii q[j]
    .simp_all
    .rw[if_pos (by simp),ya (show((q.take j).filter Ii).length<c.length by omega),zaa,aB (by omega),zaa,sa (by omega)];refine⟨_,rfl,rfl,by simp_all,by grind,?_,?_⟩
     .simp only[hb,List.filter_cons,List.filter_nil,if_true,kab,bab,sab,Qab];rw[Xaa,List.take_set_of_le (Paa _),h,List.getElem?_set_self (by omega)];rfl
     grind[List.drop_set_of_lt]) (λs ⟨f,m,g,h,a⟩=>by
    simp_all[Td]) (q.length-(k+1)) (k+1) (q,(k:Int),((k+1:Nat):Int)) (by omega) (by
    have e:(q.take (k+1)).filter Ii=q.take k:=by
     grind[Xf]
    grind)
  dsimp only at hc;obtain⟨o,rfl,h3⟩:=hc
  simp_all[clrO,Yaa,caa,Hy]
theorem Is{l:GLaw}(h:FewR l):wg l=some ((Pd (ends (qw l.Tables++ow l.e))).filter Ii):=by
 have hnt:=h.nt;have hns:=h.ns;have h1:=Nx h.t;have h2:=Ix h.s;have h3:=jr (qw l.Tables++ow l.e)
 grind[wg,Vw,mY,lY,D5,E5]
def JB(y:Int):Bool:=decide (y % 4=0)&&(!decide (y % 100=0) || decide (y % 400=0))
def Sl(y m:Int):Int:=if m=2 then(if JB y=true then 29 else 28)else if m=4\/m=6\/m=9\/m=11 then 30 else 31
def Tl(y:Int):Nat->Int
 |0=>0
 |n+1=>Tl y n+Sl y (n+1)
def ld:Nat->Int
 |0=>0
 |n+1=>ld n+(if JB (1900+n)=true then 366 else 365)
theorem gS{a b:Int}(h:0<=a):a.tmod b=a % b:=Int.tmod_eq_emod_of_nonneg h
theorem uL{a b:Int}(h:0<=a):a.tdiv b=a / b:=had h
theorem SL(h:0<=y):Bv y=some (JB y):=by
 grind[Bv,JB]
theorem vx(h:0<=y):Jq y=some (JB y):=by
 grind[Jq,JB]
theorem pd{m:Int}(h:0<=y) (h1:1<=m) (h2:m<=12):Gd y m=some (Sl y m):=by
 unfold Gd Sl;rw[if_pos (by omega),zaa,if_neg (by simp_all),SL h];rw[wid (by omega) (by omega)];have:m=1\/m=2\/m=3\/m=4\/m=5\/m=6\/m=7\/m=8\/m=9\/m=10\/m=11\/m=12:=by omega
 rcases this with rfl|rfl|rfl|rfl|rfl|rfl|rfl|rfl|rfl|rfl|rfl|rfl<;>first|(cases JB y<;>simp[idx,mL])|simp[idx,mL]
theorem Qb{m:Int}(h:0<=y) (h1:1<=m) (h2:m<=12):jc y m=some (Sl y m):=by
 unfold jc Sl;rw[vx h];have:m=1\/m=2\/m=3\/m=4\/m=5\/m=6\/m=7\/m=8\/m=9\/m=10\/m=11\/m=12:=by omega
 rcases this with rfl|rfl|rfl|rfl|rfl|rfl|rfl|rfl|rfl|rfl|rfl|rfl<;>first|(cases JB y<;>simp)|simp
theorem Fe{m:Int}:28<=Sl y m/\Sl y m<=31:=by
 grind[Sl]
theorem Mj{y:Int}:∀n,0<=Tl y n/\Tl y n<=31*n
 |0=>by simp[Tl]
 |n+1=>by
  have:=Mj (y:=y) n;have:=Fe (y:=y) (m:=n+1)
  grind[Tl]
theorem Kj:∀n,0<=ld n/\ld n<=366*n
 |0=>by simp[ld]
 |n+1=>by
  have:=Kj n
  grind[ld]
theorem CL:∀n:Nat,ld n=365*n+((1899+n:Int) / 4-(1899+n:Int) / 100+(1899+n:Int) / 400)-460
 |0=>by simp[ld]
 |n+1=>by
  simp only[ld,CL n,JB]
  grind
theorem im{n:Nat}(h:n<=1000):Ti (1900+n)=some (ld n):=by
 unfold Ti Bp;simp only[zaa];have e1:aa .i64 ((1900+(n:Int))-1)=1899+n:=by grind[wid]
 have e2:aa .i64 ((1900+(n:Int))-1900)=n:=by grind[wid]
 rw[e1,e2];rw[uL (a:=1899+(n:Int)) (by omega),uL (a:=1899+(n:Int)) (by omega),uL (a:=1899+(n:Int)) (by omega)]
 grind[CL,wid]
def Hg(n m:Nat):Int:=ld n+Tl (1900+n) m
theorem wJ{n m:Nat}(hn:n<300) (hm:m<12):lk (1900+n) (m+1) 1=some (Hg n m,0):=by
 unfold lk;have hy:=Kj n;have hd:=Fe (y:=1900+n) (m:=(m:Int)+1);rw[if_pos (by omega),if_pos (by omega),if_pos (by omega),if_pos (by omega),if_pos (by omega),pd (by omega) (by omega) (by omega),zaa,zaa,if_neg (by grind),im (by omega),zaa];have e:ca (vd (1900+n) (m+1)) (ld n,0)=some (.inl (Hg n m)):=kf (step:=vd (1900+n) (m+1)) (λi=>(ld n+Tl (1900+n) i,(i:Int))) m (Hg n m) (λi hi=>by
  unfold vd;dsimp only;rw[wid (n:=(m:Int)+1-1) (by omega) (by omega),if_pos (by omega),sa (by omega),pd (by omega) (by omega) (by omega),zaa];have:=Mj (y:=1900+n) i;have:=Fe (y:=1900+n) (m:=((i+1:Nat):Int))
  grind[Tl,wid]) (by
  unfold vd;dsimp only;rw[wid (n:=(m:Int)+1-1) (by omega) (by omega),if_neg (by omega)];rfl) (by simp[Tl])
 rw[e];have:=Mj (y:=1900+n) m
 grind[Hg,wid]
theorem sI{n m:Nat}(hn:n<300) (hm:m<12):vf (1900+n) (m+1) 1=some (Hg n m,0):=by
 unfold vf;have hd:=Fe (y:=1900+n) (m:=(m:Int)+1);rw[if_pos (by omega),if_pos (by omega),if_pos (by omega),Qb (by omega) (by omega) (by omega),zaa,zaa,if_neg (by grind)];have e:ca (Oc (1900+n)) (aa .i64 (1-1),1900)=some (.inl (ld n)):=kf (step:=Oc (1900+n)) (λi=>(ld i,1900+(i:Int))) n (ld n) (λi hi=>by
  unfold Oc mf;dsimp only;have:=Kj i;rw[if_pos (by omega),vx (by omega),zaa,wid (n:=1900+(i:Int)+1) (by omega) (by omega)];cases hb:JB (1900+(i:Int))
  .simp only[Eaa,if_false,zaa,ld,hb]
   grind[wid]
  .simp only[if_true,zaa,ld,hb]
   grind[wid]) (by
  simp_all[Oc]) (by simp[ld];decide)
 rw[e];have hy:=Kj n;have e2:ca (Nc (1900+n) (m+1)) (ld n,1)=some (.inl (Hg n m)):=kf (step:=Nc (1900+n) (m+1)) (λi=>(ld n+Tl (1900+n) i,(i:Int)+1)) m (Hg n m) (λi hi=>by
  unfold Nc;dsimp only;rw[if_pos (by omega),Qb (by omega) (by omega) (by omega),zaa];have:=Mj (y:=1900+n) i;have:=Fe (y:=1900+n) (m:=(i:Int)+1)
  grind[Tl,wid]) (by
  unfold Nc;dsimp only;rw[if_neg (by omega)];rfl) (by simp[Tl])
 simp_all
def Va(t:Int):GDateRange×Int:=if 0<=t/\t<=3599 then(⟨Hg (t.toNat / 12) (t.toNat % 12),Hg (t.toNat / 12) (t.toNat % 12)+Sl (1900+(t.toNat / 12:Nat)) ((t.toNat % 12:Nat)+1)⟩,0)else(⟨0,0⟩,3)
theorem Ru{t:Int}(h:(Va t).2=0):0<=(Va t).1.n/\(Va t).1.n<(Va t).1.To/\(Va t).1.To<=1000000:=by
 unfold Va at h⊢;split
 .rename_i hc;have:=Kj (t.toNat / 12);have:=Mj (y:=1900+((t.toNat / 12:Nat):Int)) (t.toNat % 12);have:=Fe (y:=1900+((t.toNat / 12:Nat):Int)) (m:=((t.toNat % 12:Nat):Int)+1)
  grind[Hg]
 simp_all
theorem pH{t:Int}(h1:0<=t) (h2:t<=3599):aa .i64 (1900+aa .i64 (t.tdiv 12))=1900+((t.toNat / 12:Nat):Int)/\aa .i64 (t.tmod 12+1)=((t.toNat % 12:Nat):Int)+1:=by
 grind[wid]
theorem gM(t:Int):Ns t=some (decide (0<=t/\t<=3599)):=by
 grind[Ns]
theorem ID(t:Int):Ss t=some (decide (0<=t/\t<=3599)):=by
 grind[Ss]
theorem DD(t:Int):Kv t=some (Va t):=by
 unfold Kv wA Va;rw[gM,zaa];by_cases h:0<=t/\t<=3599
 .obtain⟨e1,e2⟩:=pH h.1 h.2;have hn:t.toNat / 12<300:=by omega
  have hm:t.toNat % 12<12:=by omega
  have:=Kj (t.toNat / 12);have:=Mj (y:=1900+((t.toNat / 12:Nat):Int)) (t.toNat % 12);have:=Fe (y:=1900+((t.toNat / 12:Nat):Int)) (m:=((t.toNat % 12:Nat):Int)+1);rw[if_neg (by grind),e1,e2,wJ hn hm,zaa];simp only[if_neg (show¬(decide (0<=t/\t<=3599)=false) by grind),zaa,pd (y:=1900+((t.toNat / 12:Nat):Int)) (m:=((t.toNat % 12:Nat):Int)+1) (by omega) (by omega) (by omega),if_pos h];rw[if_neg (by simp),wid (by grind[Hg]) (by grind[Hg])]
 simp_all
theorem jM(t:Int):Qv t=some (Va t):=by
 unfold Qv ts Va;rw[ID,zaa];by_cases h:0<=t/\t<=3599
 .obtain⟨e1,e2⟩:=pH h.1 h.2;have hn:t.toNat / 12<300:=by omega
  have hm:t.toNat % 12<12:=by omega
  have:=Kj (t.toNat / 12);have:=Mj (y:=1900+((t.toNat / 12:Nat):Int)) (t.toNat % 12);have:=Fe (y:=1900+((t.toNat / 12:Nat):Int)) (m:=((t.toNat % 12:Nat):Int)+1);rw[if_neg (by grind),e1,e2,sI hn hm,zaa];simp only[if_neg (show¬(decide (0<=t/\t<=3599)=false) by grind),zaa,Qb (y:=1900+((t.toNat / 12:Nat):Int)) (m:=((t.toNat % 12:Nat):Int)+1) (by omega) (by omega) (by omega),if_pos h]
  grind[Hg,wid]
 simp_all
theorem PN:ld 300=109573:=by grind[CL]
theorem dim_c(y:Int):Sl y 1=31/\Sl y 3=31/\Sl y 4=30/\Sl y 5=31/\Sl y 6=30/\Sl y 7=31/\Sl y 8=31/\Sl y 9=30/\Sl y 10=31/\Sl y 11=30/\Sl y 12=31:=by
 simp[Sl]
theorem lW(y:Int):Tl y 12=if JB y=true then 366 else 365:=by
 obtain⟨h1,h3,h4,h5,h6,h7,h8,h9,h10,h11,h12⟩:=dim_c y;have e:Tl y 12=0+Sl y 1+Sl y 2+Sl y 3+Sl y 4+Sl y 5+Sl y 6+Sl y 7+Sl y 8+Sl y 9+Sl y 10+Sl y 11+Sl y 12:=rfl
 grind[Sl]
theorem Sx(n:Nat):ld (n+1)=ld n+Tl (1900+n) 12:=by
 rw[lW];rfl
theorem Fs:∀{i j:Nat},i<=j->ld i<=ld j:=by
 intro i j h
 induction h with
 |refl=>omega
 |step h ih=>
  grind[ld]
theorem KG:∀{i j:Nat},i<=j->Tl y i<=Tl y j:=by
 intro i j h
 induction h with
 |refl=>omega
 |step h ih=>
  rename_i j;have:=Fe (y:=y) (m:=j+1)
  grind[Tl]
theorem DV{t:Int}(c:0<=t):∀N,t<ld N->∃n,n<N/\ld n<=t/\t<ld (n+1)
 |0,h=>by grind[ld]
 |N+1,h=>by
  by_cases d:t<ld N
  .obtain⟨n,a,b⟩:=DV c N d
   grind
  grind
theorem zQ{y t:Int}(c:0<=t):∀N,t<Tl y N->∃n,n<N/\Tl y n<=t/\t<Tl y (n+1)
 |0,h=>by grind[Tl]
 |N+1,h=>by
  by_cases d:t<Tl y N
  .obtain⟨n,a,b⟩:=zQ c N d
   grind
  grind
structure Ymd (t:Int) (n m:Nat) (k:Int):Prop where
 hn:n<300
 hm:m<12
 hk:0<=k/\k<Sl (1900+n) (m+1)
 ht:t=Hg n m+k
variable {n:GNode}{m:Int}{k:Bool->Option α}
theorem uC{t:Int}(b:0<=t) (h1:t<=109572):∃n m k,Ymd t n m k:=by
 obtain⟨n,a1,a2,a3⟩:=DV b 300 (by grind[PN]);rw[Sx]at a3;obtain⟨m,a,b2,b3⟩:=zQ (y:=1900+n) (t:=t-ld n) (by omega) 12 (by omega);refine⟨n,m,t-ld n-Tl (1900+n) m,a1,a,⟨by omega,?_⟩,by grind[Hg]⟩
 grind[Tl]
theorem Ymd.year{t n m k}(h:Ymd t n m k):ld n<=t/\t<ld (n+1):=by
 obtain⟨h1,h2,h3,h4⟩:=h;have:=(Mj (y:=1900+n) m).1;have h5:=KG (y:=1900+n) (i:=m+1) (j:=12) (by omega)
 grind[Tl,Hg,Sx]
theorem Ymd.range{t n m k}(h:Ymd t n m k):0<=t/\t<=109572:=by
 have h1:=h.year;have:=Fs (i:=n+1) (j:=300) (by have:=h.hn;omega);rw[PN]at this;have:=Kj n;omega
theorem nk(t:Int):Cp t=some (decide (0<=t/\t<=109572)):=by
 grind[Cp]
theorem yr(t:Int):gn t=some (decide (0<=t/\t<=109572)):=by
 grind[gn]
theorem loopR{σ ρ:Type}{step:σ->Option (Ex σ β ρ)}{x0:σ}(S:Nat->σ) (n:Nat) (v:ρ) (hgo:∀i,i<n->step (S i)=some (.go (S (i+1)))) (hend:step (S n)=some (.ret v)) (a:x0=S 0):ca step x0=some (.inr v):=by
 subst a;have:∀k j,j+k=n->ca step (S j)=some (.inr v):=by
  intro k
  induction k with
  |zero=>simp_all[Ms]
  |succ k ih=>grind[yg]
 simp_all
theorem qn{t n m k}(h:Ymd t n m k):Fl t=some (1900+(n:Int),(m:Int)+1,k+1):=by
 have hr:=h.range;have hy:=h.year;unfold Fl;rw[nk,zaa,if_neg (by simp_all)];have hq:t.tdiv 366=((t.toNat / 366:Nat):Int):=by grind
 have hle:t.toNat / 366<=n:=by
  have:=(Kj (n+1)).2;omega
 have e1:ca (Eo t) (aa .i64 (1900+(aa .i64 (Naa t 366))))=some (.inl (1900+(n:Int))):=by
  refine kf (step:=Eo t) (λi=>1900+((t.toNat / 366+i:Nat):Int)) (n-t.toNat / 366) _ (λi hi=>?_) ?_ ?_
  .unfold Eo;have hm:=Fs (i:=t.toNat / 366+i+1) (j:=n) (by omega);have e:aa .i64 (1900+((t.toNat / 366+i:Nat):Int)+1)=1900+((t.toNat / 366+i+1:Nat):Int):=by
    rw[wid (by omega) (by have:=h.hn;omega)];omega
   rw[e,im (by have:=h.hn;omega),zaa,if_pos (by omega)];rfl
  .unfold Eo;have e:aa .i64 (1900+((t.toNat / 366+(n-t.toNat / 366):Nat):Int)+1)=1900+((n+1:Nat):Int):=by
    rw[wid (by omega) (by have:=h.hn;omega)];omega
   rw[e,im (by have:=h.hn;omega),zaa,if_neg (by omega)]
   simp_all
  grind[wid]
 rw[e1,zaa];dsimp only;rw[im (by have:=h.hn;omega),zaa];have ht:=h.ht;unfold Hg at ht;have hmm:=Mj (y:=1900+n) m;have hkk:=h.hk;have hdd:=Fe (y:=1900+n) (m:=m+1);have hyy:=Kj n;have hm12:=h.hm;have hn3:=h.hn;have e2:ca (Co (1900+n)) (aa .i64 (t-ld n),0)=some (.inr (1900+(n:Int),(m:Int)+1,k+1)):=by
  refine loopR (step:=Co (1900+n)) (λi=>(Tl (1900+n) m-Tl (1900+n) i+k,(i:Int))) m _ (λi hi=>?_) ?_ ?_
  .unfold Co;dsimp only;have a:=KG (y:=1900+n) (i:=i+1) (j:=m) (by omega);have h3:=(Mj (y:=1900+n) i);have h4:=Fe (y:=1900+n) (m:=i+1);simp only[Tl]at a;rw[if_pos (by omega),sa (by omega),pd (by omega) (by omega) (by omega),zaa];rw[show((i+1:Nat):Int)=(i:Int)+1 from rfl]at *;rw[if_neg (by omega),wid (by omega) (by omega)]
   grind[Tl]
  .unfold Co;dsimp only;rw[if_pos (by omega),sa (by omega),pd (by omega) (by omega) (by omega),zaa];rw[show((m+1:Nat):Int)=(m:Int)+1 from rfl]at *;rw[if_pos (by omega),wid (by omega) (by omega)];simp
  grind[Tl,wid]
 simp_all
theorem js(h:0<=y):mf y=some (Tl y 12):=by
 grind[mf,vx,lW]
theorem HD{t n m k}(h:Ymd t n m k):Pp t=some (1900+(n:Int),(m:Int)+1,k+1):=by
 have hr:=h.range;have hy:=h.year;have ht:=h.ht;unfold Hg at ht;have hmm:=Mj (y:=1900+n) m;have hkk:=h.hk;have hdd:=Fe (y:=1900+n) (m:=m+1);have hyy:=Kj n;have hm12:=h.hm;have hn3:=h.hn;unfold Pp;rw[yr,zaa,if_neg (by simp_all)];have e1:ca Gm (t,1900)=some (.inl (t-ld n,1900+(n:Int))):=by
  refine kf (step:=Gm) (λi=>(t-ld i,1900+(i:Int))) n _ (λi hi=>?_) ?_ (by simp[ld])
  .unfold Gm;dsimp only;have a:=Fs (i:=i+1) (j:=n) (by omega);have h2:=Sx i;have b:=Kj i;have c:=Mj (y:=1900+i) 12;rw[js (by omega),zaa,if_pos (by omega),zaa,wid (by omega) (by omega),wid (by omega) (by omega),h2]
   grind
  .unfold Gm;dsimp only;have h2:=Sx n;rw[js (by omega),zaa,if_neg (by omega)]
 rw[e1,zaa];dsimp only;have e2:ca (Fm (1900+n)) (t-ld n,1)=some (.inl (k,(m:Int)+1)):=by
  refine kf (step:=Fm (1900+n)) (λi=>(Tl (1900+n) m-Tl (1900+n) i+k,(i:Int)+1)) m _ (λi hi=>?_) ?_ ?_
  .unfold Fm;dsimp only;have a:=KG (y:=1900+n) (i:=i+1) (j:=m) (by omega);have b:=(Mj (y:=1900+n) i);have c:=Fe (y:=1900+n) (m:=i+1);simp only[Tl]at a⊢;rw[Qb (by omega) (by omega) (by omega),zaa,if_pos (by omega),zaa,wid (by omega) (by omega),wid (by omega) (by omega)]
   grind
  .unfold Fm;dsimp only;rw[Qb (by omega) (by omega) (by omega),zaa,if_neg (by omega)];simp
  grind[Tl]
 grind[wid]
theorem vJ{n m:Nat}(hn:n<300) (hm:m<12) (hd1:1<=d) (hd2:d<=Sl (1900+n) (m+1)):lk (1900+n) (m+1) d=some (Hg n m+d-1,0):=by
 unfold lk;have hy:=Kj n;have hd:=Fe (y:=1900+n) (m:=(m:Int)+1);rw[if_pos (by omega),if_pos (by omega),if_pos (by omega),if_pos (by omega),if_pos (by omega),pd (by omega) (by omega) (by omega),zaa,zaa,if_neg (by simp_all),im (by omega),zaa];have e:ca (vd (1900+n) (m+1)) (ld n,0)=some (.inl (Hg n m)):=kf (step:=vd (1900+n) (m+1)) (λi=>(ld n+Tl (1900+n) i,(i:Int))) m (Hg n m) (λi hi=>by
  unfold vd;dsimp only;rw[wid (n:=(m:Int)+1-1) (by omega) (by omega),if_pos (by omega),sa (by omega),pd (by omega) (by omega) (by omega),zaa];have:=Mj (y:=1900+n) i;have:=Fe (y:=1900+n) (m:=((i+1:Nat):Int))
  grind[Tl,wid]) (by
  unfold vd;dsimp only;rw[wid (n:=(m:Int)+1-1) (by omega) (by omega),if_neg (by omega)];rfl) (by simp[Tl])
 rw[e];have:=Mj (y:=1900+n) m
 grind[Hg,wid]
theorem rI{n m:Nat}(hn:n<300) (hm:m<12) (hd1:1<=d) (hd2:d<=Sl (1900+n) (m+1)):vf (1900+n) (m+1) d=some (Hg n m+d-1,0):=by
 unfold vf;have hd:=Fe (y:=1900+n) (m:=(m:Int)+1);rw[if_pos (by omega),if_pos (by omega),if_pos (by omega),Qb (by omega) (by omega) (by omega),zaa,zaa,if_neg (by simp_all),wid (n:=d-1) (by omega) (by omega)];have e:ca (Oc (1900+n)) (d-1,1900)=some (.inl (d-1+ld n)):=kf (step:=Oc (1900+n)) (λi=>(d-1+ld i,1900+(i:Int))) n (d-1+ld n) (λi hi=>by
  unfold Oc;dsimp only;have:=Kj i;have:=Mj (y:=1900+i) 12;rw[if_pos (by omega),js (by omega),zaa,wid (n:=1900+(i:Int)+1) (by omega) (by omega),wid (by omega) (by omega),Sx]
  grind) (by
  simp_all[Oc]) (by simp[ld])
 rw[e,zaa];dsimp only;have hy:=Kj n;have hmo:=Mj (y:=1900+n) m;have e2:ca (Nc (1900+n) (m+1)) (d-1+ld n,1)=some (.inl (Hg n m+d-1)):=kf (step:=Nc (1900+n) (m+1)) (λi=>(d-1+ld n+Tl (1900+n) i,(i:Int)+1)) m (Hg n m+d-1) (λi hi=>by
  unfold Nc;dsimp only;rw[if_pos (by omega),Qb (by omega) (by omega) (by omega),zaa];have:=Mj (y:=1900+n) i;have:=Fe (y:=1900+n) (m:=(i:Int)+1)
  grind[Tl,wid]) (by
  grind[Nc,Hg]) (by simp[Tl])
 simp_all
def EL(n m:Nat) (k j:Int):Int×Int:=
 if 12*(n:Int)+m+j<0\/3599<12*(n:Int)+m+j then(0,3)else
 (Hg ((12*(n:Int)+m+j) / 12).toNat ((12*(n:Int)+m+j) % 12).toNat+min (k+1) (Sl (1900+(12*(n:Int)+m+j) / 12) ((12*(n:Int)+m+j) % 12+1))-1,0)
theorem or3'{b:Prop} [Decidable b] [Decidable c] {x:Option Bool}(hx:x=some true):(Aaa (α:=Bool) (x.bind λa=>if a=true then if¬b then some (decide c)else some true else some true) k)=k (decide (b\/c)):=by
 grind
theorem wq{t n m k}(h:Ymd t n m k) {j:Int}(hj:-3600<=j/\j<=3600):Be t j=some (EL n m k j):=by
 have hr:=h.range;have hkk:=h.hk;have hm12:=h.hm;have hn3:=h.hn;have hdd:=Fe (y:=1900+n) (m:=m+1);unfold Be;rw[or3' (by grind[nk]),if_neg (by simp_all),qn h,zaa];have e:aa .i64 ((aa .i64 ((aa .i64 ((aa .i64 ((aa .i64 (1900+(n:Int)-1900))*12))+((m:Int)+1)))-1))+j)=12*(n:Int)+m+j:=by
  grind[wid]
 dsimp only;rw[e];unfold EL;generalize 12*(n:Int)+m+j=K at *;by_cases a:K<0
 .simp_all
 .rw[if_pos a,zaa];by_cases h2:3599<K
  .simp_all
  .rw[if_neg (by simp_all),if_neg (by omega)];have e2:aa .i64 (1900+aa .i64 (Naa K 12))=1900+((K / 12).toNat:Int):=by
    grind[wid]
   have e3:aa .i64 (Taa K 12+1)=((K % 12).toNat:Int)+1:=by
    grind[wid]
   rw[e2,e3];have hd2:=Fe (y:=1900+((K / 12).toNat:Int)) (m:=((K % 12).toNat:Int)+1);rw[pd (by omega) (by omega) (by omega),zaa,vJ (by omega) (by omega) (by omega) (by omega),zaa]
   grind
theorem Lt{t n m k}(h:Ymd t n m k) {j:Int}(hj:-3600<=j/\j<=3600):jg t j=some (EL n m k j):=by
 have hr:=h.range;have hkk:=h.hk;have hm12:=h.hm;have hn3:=h.hn;have hdd:=Fe (y:=1900+n) (m:=m+1);unfold jg;rw[or3' (by grind[yr]),if_neg (by simp_all),HD h,zaa];have e:aa .i64 ((aa .i64 ((aa .i64 ((aa .i64 (12*(1900+(n:Int))))+((m:Int)+1)))-1))+j)=22800+(12*(n:Int)+m+j):=by
  grind[wid]
 dsimp only;rw[e];unfold EL;have hK:-3600<=12*(n:Int)+m+j/\12*(n:Int)+m+j<=7200:=by omega
 generalize 12*(n:Int)+m+j=K at *;have e2:aa .i64 (Naa (22800+K) 12)=1900+K / 12:=by
  grind[wid]
 have e3:aa .i64 (Taa (22800+K) 12+1)=K % 12+1:=by
  grind[wid]
 rw[e2,e3];have hd2:=Fe (y:=1900+K / 12) (m:=K % 12+1);rw[Qb (by omega) (by omega) (by omega),zaa];by_cases a:K<0
 .rw[if_pos (.inl a)];unfold vf
  grind
 .by_cases h2:3599<K
  .rw[if_pos (.inr h2)];unfold vf
   grind
  .rw[if_neg (by omega)];have:=rI (n:=(K / 12).toNat) (m:=(K % 12).toNat) (d:=min (k+1) (Sl (1900+K / 12) (K % 12+1))) (by omega) (by omega) (by omega) (by
    grind)
   grind
theorem gy{t n m k}(h:Ymd t n m k) {i:Nat}:(n+i<300->∃c,Ymd (EL n m k (12*i)).1 (n+i) m c/\(EL n m k (12*i)).2=0/\(i=0->(EL n m k (12*i)).1=t))/\(300<=n+i->EL n m k (12*i)=(0,3)):=by
 have hkk:=h.hk;have a:=h.hm;have hn3:=h.hn;constructor
 .intro hi;have e1:(12*(n:Int)+m+12*i) / 12=((n+i:Nat):Int):=by omega
  have e2:(12*(n:Int)+m+12*i) % 12=(m:Int):=by omega
  unfold EL;rw[if_neg (by omega),e1,e2];have hd2:=Fe (y:=1900+((n+i:Nat):Int)) (m:=(m:Int)+1);simp only[Xab];refine⟨min (k+1) (Sl (1900+((n+i:Nat):Int)) ((m:Int)+1))-1,⟨hi,a,by omega,by omega⟩,trivial,λb=>?_⟩;subst b;have:=h.ht
  grind
 grind[EL]
theorem years_s(a b:Int):∃r,Df a b=some r/\mj a b=some r/\0<=r/\r<=300:=by
 unfold Df mj;rw[nk,nk,yr,yr];by_cases e:¬(0<=a/\a<=109572)
 .grind
 have e:=Sab.1 e;by_cases f:¬(0<=b/\b<=109572)
 .grind
 have f:=Sab.1 f;rw[decide_eq_true e,decide_eq_true f];simp only[zaa,if_true,Rab,Eaa,if_false];obtain⟨c,k,g,ha⟩:=uC e.1 e.2;obtain⟨m,mb,kb,hb⟩:=uC f.1 f.2;have hya:=ha.year;have hyb:=hb.year;have hna:=ha.hn;have l:=hb.hn;have stop:∀N:Nat,c+N<300->(∀i,i<N->(EL c k g (12*((i+1:Nat):Int))).2=0/\(EL c k g (12*((i+1:Nat):Int))).1<=b)->((EL c k g (12*((N+1:Nat):Int))).2≠0\/b<(EL c k g (12*((N+1:Nat):Int))).1)->ca (ue a b) 0=some (.inr (N:Int)):=by
  intro N hN o hend;refine loopR (step:=ue a b) (λi=>(i:Int)) N _ (λi hi=>?_) ?_ rfl
  .unfold ue;obtain⟨g1,g2⟩:=o i hi;rw[sa (by omega),wid (n:=12*((i+1:Nat):Int)) (by omega) (by omega),Lt ha (by omega),zaa,if_pos g1,zaa,if_neg (λh=>absurd (of_decide_eq_true h) (Int.not_lt.2 g2))]
  .unfold ue;rw[sa (by omega),wid (n:=12*((N+1:Nat):Int)) (by omega) (by omega),Lt ha (by omega),zaa]
   grind
 by_cases hab:b<a
 .rw[if_pos (by simp_all)];refine⟨0,rfl,?_,by omega,by omega⟩;rw[stop 0 (by omega) (λi hi=>absurd hi (Nat.not_lt_zero _)) ?_]
  .rfl
  .rcases Gab (c+1) 300 with d|d
   .obtain⟨p,h2,h3,-⟩:=(gy ha (i:=1)).1 d;right;have h4:=h2.year
    grind
   .left;have:=(gy ha (i:=1)).2 d
    simp_all
 .rw[if_neg (by simp_all),qn ha,zaa,qn hb,zaa];dsimp only;have hle:c<=m:=by
   rcases Gab m c with d|d
   .have:=Fs (i:=m+1) (j:=c) (by omega);omega
   omega
  obtain⟨Y,hY⟩:∃Y,m=c+Y:=⟨m-c,by omega⟩;subst hY;have e1:aa .i64 (1900+((c+Y:Nat):Int)-(1900+(c:Int)))=(Y:Int):=by grind[wid]
  rw[e1,wid (n:=12*(Y:Int)) (by omega) (by omega),wq ha (by omega),zaa];obtain⟨p,g1,g2,g3⟩:=(gy ha (i:=Y)).1 l;have below:∀i,i<Y->(EL c k g (12*(i:Int))).2=0/\(EL c k g (12*(i:Int))).1<=b:=by
   intro i hi;obtain⟨q,q1,s,-⟩:=(gy ha (i:=i)).1 (by omega);have:=q1.year;have:=Fs (i:=c+i+1) (j:=c+Y) (by omega);omega
  rw[if_pos g2,zaa];by_cases hc:b<(EL c k g (12*(Y:Int))).1
  .rw[if_pos (by simp_all),zaa];have hY0:Y≠0:=by
    omega
   obtain⟨Z,rfl⟩:∃Z,Y=Z+1:=⟨Y-1,by omega⟩;refine⟨(Z:Int),?_,?_,by omega,by omega⟩
   .grind[wid]
   .rw[stop Z (by omega) (λi hi=>below (i+1) (by omega)) (.inr hc)];rfl
  .rw[if_neg (by simp_all),zaa];refine⟨(Y:Int),by simp,?_,by omega,by omega⟩;have s1:∀i,i<Y->(EL c k g (12*((i+1:Nat):Int))).2=0/\(EL c k g (12*((i+1:Nat):Int))).1<=b:=by
    intro i hi;rcases Gab (i+1) Y with d|d
    all_goals grind
   rw[stop Y l s1 ?_]
   .rfl
   .rcases Gab (c+(Y+1)) 300 with d|d
    .obtain⟨q,q1,s,-⟩:=(gy ha (i:=Y+1)).1 d;right;have:=q1.year
     grind
    .left;rw[(gy ha (i:=Y+1)).2 d]
     decide
theorem years_p(a b:Int):∃r,Df a b=some r/\0<=r/\r<=300:=by
 unfold Df;rw[nk,nk];by_cases d:¬(0<=a/\a<=109572)
 .grind
 have d:=Sab.1 d;by_cases e:¬(0<=b/\b<=109572)
 .grind
 have e:=Sab.1 e;rw[decide_eq_true d,decide_eq_true e];simp only[zaa,if_true,Rab,Eaa,if_false];obtain⟨c,k,h,ha⟩:=uC d.1 d.2;obtain⟨f,mb,kb,hb⟩:=uC e.1 e.2;have hya:=ha.year;have hyb:=hb.year;have hna:=ha.hn;have g:=hb.hn;by_cases hab:b<a
 .simp_all
 .rw[if_neg (by simp_all),qn ha,zaa,qn hb,zaa];dsimp only;have hle:c<=f:=by
   rcases Gab f c with l|l
   .have:=Fs (i:=f+1) (j:=c) (by omega);omega
   omega
  obtain⟨Y,hY⟩:∃Y,f=c+Y:=⟨f-c,by omega⟩;subst hY;have e1:aa .i64 (1900+((c+Y:Nat):Int)-(1900+(c:Int)))=(Y:Int):=by grind[wid]
  rw[e1,wid (n:=12*(Y:Int)) (by omega) (by omega),wq ha (by omega),zaa];obtain⟨k',g1,g2,g3⟩:=(gy ha (i:=Y)).1 g;have below:∀i,i<Y->(EL c k h (12*(i:Int))).2=0/\(EL c k h (12*(i:Int))).1<=b:=by
   intro i hi;obtain⟨k2,q1,q2,-⟩:=(gy ha (i:=i)).1 (by omega);have:=q1.year;have:=Fs (i:=c+i+1) (j:=c+Y) (by omega);omega
  rw[if_pos g2,zaa];by_cases hc:b<(EL c k h (12*(Y:Int))).1
  .rw[if_pos (by simp_all),zaa];have hY0:Y≠0:=by
    omega
   obtain⟨Z,rfl⟩:∃Z,Y=Z+1:=⟨Y-1,by omega⟩
   grind[wid]
  grind
def jy(r:GDateRange) (d:Int):Bool:=D0 r&&(decide (r.n<=d)&&decide (d<r.To))
theorem We(r:GDateRange) (d:Int):Lb r d=some (jy r d):=by
 grind[Lb,jy,ct]
theorem Kq(r:GDateRange) (d:Int):Pf r d=some (jy r d):=by
 grind[Pf,jy,pv]
def DE(def_ date:Int) (r:GRule):Bool:=decide (r.s=def_)&&jy r.w date
def Se(rules:List GRule) (q:GRule->Bool):Nat->List Int×List Int×List Int
 |0=>([],[],Daa rules.length 0)
 |i+1=>
  match rules[i]? with
  |none=>Se rules q i
  |some r=>
   let p:=Se rules q i
   let a:=if 0<=r.ag/\r.ag<(i:Int)then(p.2.2[r.ag.toNat]?).getD 0 else -1
   if q r=true then(p.1++[(i:Int)],p.2.1++[a],(p.2.2.set i a).set i (p.1.length:Int))else(p.1,p.2.1,p.2.2.set i a)
theorem fu{rules:List GRule}{q:GRule->Bool}:∀i,(Se rules q i).2.2.length=rules.length/\(Se rules q i).1.length<=i/\(Se rules q i).2.1.length=(Se rules q i).1.length
 |0=>by simp[Se]
 |i+1=>by
  obtain⟨h1,h2,h3⟩:=fu (rules:=rules) (q:=q) i
  grind[Se]
theorem EF{rules:List GRule}{q:GRule->Bool}:∀i,∀x∈(Se rules q i).1,0<=x/\x<(rules.length:Int)/\x<(i:Int)
 |0=>by simp[Se]
 |i+1=>by
  have h:=EF (rules:=rules) (q:=q) i;unfold Se
  grind
theorem XA{rules:List GRule}(hr:rules.length<=1048576) {f:GRule->Option Bool}{q:GRule->Bool}(hf:∀r,f r=some (q r)):Vf rules f=some ((Se rules q rules.length).1,(Se rules q rules.length).2.1):=by
 unfold Vf;rw[Zy (by omega) (by omega),zaa];have hl:ca (Ef rules f) (([]:List Int),([]:List Int),Daa rules.length 0,0)=some (.inl ((Se rules q rules.length).1,(Se rules q rules.length).2.1)):=by
  refine kf (λi=>((Se rules q i).1,(Se rules q i).2.1,(Se rules q i).2.2,(i:Int))) rules.length _ (λi hi=>?_) (by grind[Ef]) rfl;obtain⟨h1,h2,h3⟩:=fu (rules:=rules) (q:=q) i;unfold Ef;simp only[Se,Baa hi];rw[if_pos (by omega),ya hi,zaa,sa (by omega),hf];generalize rules[i]=r;have hanc:(Aaa (α:=Int) (Aaa (α:=Bool) (if 0<=r.ag then some (decide (r.ag<(i:Int)))else some false) λd=>if d=true then(idx (Se rules q i).2.2 r.ag).bind λb=>some b else some (-1)) λc=>some c)=some (if 0<=r.ag/\r.ag<(i:Int)then((Se rules q i).2.2[r.ag.toNat]?).getD 0 else -1):=by
   by_cases g1:0<=r.ag
   .by_cases g2:r.ag<(i:Int)
    .rw[if_pos g1,zaa,if_pos (by simp_all),if_pos ⟨g1,g2⟩,bh g1 (by omega),Baa (by omega)];rfl
    grind
   grind
  have a:(Aaa (α:=Bool) (if 0<=r.ag then some (decide (r.ag<(i:Int)))else some false) λd=>if d=true then(idx (Se rules q i).2.2 r.ag).bind λb=>some b else some (-1))=some (if 0<=r.ag/\r.ag<(i:Int)then((Se rules q i).2.2[r.ag.toNat]?).getD 0 else -1):=by
   simp_all
  rw[a,zaa];generalize (if 0<=r.ag/\r.ag<(i:Int)then((Se rules q i).2.2[r.ag.toNat]?).getD 0 else -1)=anc;rw[ya (i:=i) (by omega),zaa,aB (by omega),zaa,zaa];cases q r
  .simp
  .rw[if_pos rfl,ya (i:=i) (by simp_all),zaa,aB (by simp_all),zaa,uf (by grind),zaa,uf (by grind),zaa];rfl
 simp_all
theorem AI(hs:s.f.length<=1048576) (def_ date:Int):Er s def_ date=some (Se s.f (DE def_ date) s.f.length).1:=by
 unfold Er;have hl:ca (Om s def_ date) (([]:List Int),0)=some (.inl (Se s.f (DE def_ date) s.f.length).1):=by
  refine kf (λi=>((Se s.f (DE def_ date) i).1,(i:Int))) s.f.length _ (λi hi=>?_) (by grind[Om]) rfl;obtain⟨h1,h2,h3⟩:=fu (rules:=s.f) (q:=DE def_ date) i;unfold Om;simp only[Se,Baa hi];rw[if_pos (by omega),ya hi,zaa,sa (by omega),Kq];generalize s.f[i]=r;have hq:(if r.s=def_ then(some (jy r.w date)).bind λa=>some a else some false)=some (DE def_ date r):=by
   grind[DE]
  rw[hq,zaa];cases DE def_ date r
  .simp
  .rw[if_pos rfl,uf (by grind)];rfl
 simp_all
def bJ(neg:Bool) (mode:Int) (q r d:Nat):Prop:=
 (mode=0/\neg=true/\0<r)\/(mode=1/\neg=false/\0<r)\/(mode=3/\0<r)\/(mode=4/\d<=r+r)\/(mode=5/\(d<r+r\/(d=r+r/\q % 2=1)))
instance (neg:Bool) (mode:Int) (q r d:Nat):Decidable (bJ neg mode q r d):=by unfold bJ;infer_instance
def dr(neg:Bool) (mode:Int) (q r d:Nat):Nat:=if bJ neg mode q r d then q+1 else q
theorem Qw(neg:Bool) (mode:Int) (q r d:Nat):q<=dr neg mode q r d/\dr neg mode q r d<=q+1:=by
 grind[dr]
def ND(neg:Bool) (n:Nat):Int:=if neg=true then -(n:Int)else n
theorem eP(neg:Bool) (n:Nat):(ND neg n).natAbs=n:=by grind[ND]
theorem wuN{n:Int}(h1:0<=n) (h2:n<18446744073709551616):aa .u64 n=n:=by
 grind[aa]
theorem ZU(q:Nat):((Taa (q:Int) 2)==1)=decide (q % 2=1):=by
 grind
theorem half{d q:Nat}:(if¬((d:Int)-r)<r then if(r:Int)=d-r then some (decide (q % 2=1))else some false else some true)=some (decide (d<r+r\/(d=r+r/\q % 2=1))):=by
 by_cases a:(d:Int)-r<r
 .grind
 .rw[if_pos a];by_cases h2:(r:Int)=d-r
  .rw[if_pos h2];congr 1;grind
  .rw[if_neg h2];simp;omega
theorem BR{q d:Nat}(neg:Bool) (mode:Int) (hq:q<9223372036854775808) (hr:r<d) (hd:d<9223372036854775808):lf q r d neg mode=some ((dr neg mode q r d:Nat):Int):=by
 unfold lf dr;rw[wuN (n:=(d:Int)-r) (by omega) (by omega),wuN (n:=(q:Int)+1) (by omega) (by omega),ZU,half];by_cases a:r=0
 .subst a;rw[if_pos (by rfl),if_neg (by unfold bJ;omega)]
 .rw[if_neg (by omega)];unfold bJ
  grind
theorem Wn{q d:Nat}(neg:Bool) (mode:Int) (hq:q<9223372036854775807) (hr:r<d) (hd:d<9223372036854775808):fh q r d neg mode=some (ND neg (dr neg mode q r d)):=by
 unfold fh dr;rw[wid (n:=(d:Int)-r) (by omega) (by omega),wid (n:=(q:Int)+1) (by omega) (by omega),ZU];have hh:=half (q:=q) (r:=r) (d:=d);have fin:∀u:Bool,(Aaa (α:=Int) (if u=true then some ((q:Int)+1)else some (q:Int)) λa=>if neg=true then some (aa .i64 (-a))else some a)=some (ND neg (if u=true then q+1 else q)):=by
  intro u;unfold ND;cases u<;>cases neg<;>simp
  all_goals grind[wid]
 have key:∀u:Bool,(u=true↔bJ neg mode q r d)->∀o:Option (Bool×Bool),o=some (neg,u)->(Aaa o λ(x:Bool×Bool)=>Aaa (α:=Int) (if x.2=true then some ((q:Int)+1)else some (q:Int)) λa=>if x.1=true then some (aa .i64 (-a))else some a)=some (ND neg (if bJ neg mode q r d then q+1 else q)):=by
  simp_all
 by_cases e0:mode=0
 .subst e0;refine key (decide (neg=true/\0<r)) (by unfold bJ;simp) _ ?_
  grind
 by_cases e1:mode=1
 .subst e1;refine key (decide (neg=false/\0<r)) (by unfold bJ;simp) _ ?_
  grind
 by_cases e3:mode=3
 .subst e3;refine key (decide (0<r)) (by unfold bJ;simp) _ ?_;simp
 by_cases e4:mode=4
 .subst e4;refine key (decide (d<=r+r)) (by unfold bJ;simp) _ ?_
  grind
 by_cases e5:mode=5
 .subst e5;refine key (decide (d<r+r\/(d=r+r/\q % 2=1))) (by unfold bJ;simp) _ ?_
  grind
 refine key false (by unfold bJ;simp_all) _ ?_
 simp_all
theorem It(n:Int):fi n=some (decide (0<=n/\n<=5)):=by
 grind[fi]
theorem Lw(n:Int):Np n=some (decide (0<=n/\n<=5)):=by
 grind[Np]
theorem beyO{n k:Int}(hx:x = -k):(Aaa (α:=Bool) (if¬k<n then some (decide (n<x))else some true) λj=>some j)=some (decide (k<n\/n < -k)):=by
 subst hx;grind
theorem ij{n k:Int}(h1:0<=k) (h2:k<9223372036854775808):Nf n k=some (decide (k<n\/n < -k)):=by
 unfold Nf;exact beyO (wid (by omega) (by omega))
theorem Ee{n k:Int}(h1:0<=k) (h2:k<9223372036854775808):Vc n k=some (decide (k<n\/n < -k)):=by
 unfold Vc;exact beyO (wid (by omega) (by omega))
theorem Qh{n:Int}(h1:-9223372036854775808<=n) (h2:n<9223372036854775808):Je n=some (n.natAbs:Int):=by
 grind[Je,aa]
theorem Ps{n:Int}(h1:-9223372036854775808<n) (h2:n<9223372036854775808):Ho n=some (n.natAbs:Int):=by
 unfold Ho;by_cases h:n<0
 .rw[if_pos h,wid (by omega) (by omega)];grind
 grind
theorem VB{q:Nat}(b:Bool) (h:q<9223372036854775808):Iq q b=some (ND b q):=by
 grind[Iq,ND,wid]
theorem quoU{a b:Nat}(h:0<b) (ha:a<9223372036854775808):quo .u64 (a:Int) (b:Int)=some ((a / b:Nat):Int):=by
 unfold quo;have:=fac a b;rw[if_neg (by omega),had (by omega),←Mae]
 grind[wuN]
theorem HZ{a b:Nat}{k:IntKind}(h:0<b):rem k (a:Int) (b:Int)=some ((a % b:Nat):Int):=by
 grind[rem]
theorem TO{a b:Nat}(h:0<b) (ha:a<9223372036854775808):quo .i64 (a:Int) (b:Int)=some ((a / b:Nat):Int):=by
 unfold quo;have:=fac a b;rw[if_neg (by omega),had (by omega),←Mae]
 grind[wid]
def vT(n d mode:Int):Int×Int:=
 if¬(0<=mode/\mode<=5)then(0,1)else
 if d=0 then(0,12)else
 if(4611686018427387904<n\/n < -4611686018427387904)\/(4611686018427387904<d\/d < -4611686018427387904)then(0,3)else
 (ND (!(decide (n<0)==decide (d<0))) (dr (!(decide (n<0)==decide (d<0))) mode (n.natAbs / d.natAbs) (n.natAbs % d.natAbs) d.natAbs),0)
theorem or2{a b:Prop} [Decidable a] [Decidable b] (h:o=some (decide b)) :(Aaa (α:=Bool) ((some (decide a)).bind λx=>if x=false then o.bind λy=>some y else some true) k)=k (decide (a\/b)):=by
 grind
theorem Rg(n d mode:Int):Mf n d mode=some (vT n d mode):=by
 unfold Mf vT;rw[It,zaa];by_cases hm:0<=mode/\mode<=5
 .rw[if_neg (by simp_all),if_neg (Haa.2 hm)];by_cases a:d=0
  .simp_all
  .rw[if_neg a,if_neg a,ij (by omega) (by omega),or2 (ij (by omega) (by omega))];by_cases hb:(4611686018427387904<n\/n < -4611686018427387904)\/(4611686018427387904<d\/d < -4611686018427387904)
   .simp_all
   .rw[if_neg (by simp_all),if_neg hb,Qh (by omega) (by omega),zaa,Qh (by omega) (by omega),zaa];have hl:=fac n.natAbs d.natAbs;have hr:=(Qw (!(decide (n<0)==decide (d<0))) mode (n.natAbs / d.natAbs) (n.natAbs % d.natAbs) d.natAbs).2;rw[quoU (by omega) (by omega),zaa,HZ (by omega),zaa,BR _ _ (by omega) (hac _ (by omega)) (by omega),zaa,VB _ (by omega)];rfl
 simp_all
theorem Pz(n d mode:Int):kj n d mode=some (vT n d mode):=by
 unfold kj vT;rw[Lw,zaa];by_cases hm:0<=mode/\mode<=5
 .rw[if_neg (by simp_all),if_neg (Haa.2 hm)];by_cases a:d=0
  .simp_all
  .rw[if_neg a,if_neg a,Ee (by omega) (by omega),or2 (Ee (by omega) (by omega))];by_cases hb:(4611686018427387904<n\/n < -4611686018427387904)\/(4611686018427387904<d\/d < -4611686018427387904)
   .simp_all
   .rw[if_neg (by simp_all),if_neg hb,Ps (by omega) (by omega),zaa,Ps (by omega) (by omega),zaa];have hl:=fac n.natAbs d.natAbs;rw[TO (by omega) (by omega),zaa,HZ (by omega),zaa,Wn _ _ (by omega) (hac _ (by omega)) (by omega)];rfl
 simp_all
def mdS(c num den mode:Int):Int×Int:=
 if¬(0<=mode/\mode<=5)then(0,1)else
 if den=0 then(0,12)else
 if(1000000000000000<c\/c < -1000000000000000)\/(1000000000<num\/num < -1000000000)\/(1000000000<den\/den < -1000000000)then(0,3)else
 if dr (!((!((decide (c<0))==(decide (num<0))))==(decide (den<0)))) mode (c.natAbs*num.natAbs / den.natAbs) (c.natAbs*num.natAbs % den.natAbs) den.natAbs<=1000000000000000 then
  (ND (!((!((decide (c<0))==(decide (num<0))))==(decide (den<0)))) (dr (!((!((decide (c<0))==(decide (num<0))))==(decide (den<0)))) mode (c.natAbs*num.natAbs / den.natAbs) (c.natAbs*num.natAbs % den.natAbs) den.natAbs),0)
 else(0,3)
theorem or3{a b:Prop} [Decidable a] [Decidable b] [Decidable c] {p:Option Bool}(h:o=some (decide b)) (h2:p=some (decide c)) :(Aaa (α:=Bool) ((some (decide a)).bind λx=>if x=false then o.bind λy=>if y=false then p.bind λz=>some z else some true else some true) k)=k (decide (a\/b\/c)):=by
 grind
theorem nW{x y:Nat}(hx:x<18446744073709551616) (hy:y<18446744073709551616):Ie x y=some (((x*y / 18446744073709551616:Nat):Int),((x*y % 18446744073709551616:Nat):Int)):=by
 grind[Ie]
theorem X4{p:Nat}(hp:p / 18446744073709551616<z) (hz:z<18446744073709551616):ig ((p / 18446744073709551616:Nat):Int) ((p % 18446744073709551616:Nat):Int) z=some (((p / z:Nat):Int),((p % z:Nat):Int)):=by
 grind[ig]
theorem LM{p:Nat}(a:0<z) (h:z<=p / 18446744073709551616):18446744073709551616<=p / z:=by
 rw[Nat.le_div_iff_mul_le a];omega
theorem qK(c num den mode:Int):Ht c num den mode=some (mdS c num den mode):=by
 unfold Ht mdS;rw[It,zaa];by_cases hm:0<=mode/\mode<=5
 .rw[if_neg (by simp_all),if_neg (Haa.2 hm)];by_cases e:den=0
  .simp_all
  .rw[if_neg e,if_neg e,ij (by omega) (by omega),or3 (ij (by omega) (by omega)) (ij (by omega) (by omega))];by_cases hb:(1000000000000000<c\/c < -1000000000000000)\/(1000000000<num\/num < -1000000000)\/(1000000000<den\/den < -1000000000)
   .simp_all
   .rw[if_neg (by simp_all),if_neg hb,Qh (by omega) (by omega),zaa,Qh (by omega) (by omega),zaa];generalize (!((!((decide (c<0))==(decide (num<0))))==(decide (den<0))))=ng;obtain⟨x,hx⟩:∃x,c.natAbs=x:=⟨_,rfl⟩;obtain⟨y,k⟩:∃x,num.natAbs=x:=⟨_,rfl⟩;obtain⟨z,f⟩:∃x,den.natAbs=x:=⟨_,rfl⟩;have a:=Qh (n:=den) (by omega) (by omega);rw[f]at a;rw[hx,k,f,a];have g:x<=1000000000000000:=by omega
    have bY:y<=1000000000:=by omega
    have d:z<=1000000000/\0<z:=by omega
    have b:x*y<=1000000000000000000000000:=Bab (aac g bY) (by decide);rw[nW (by omega) (by omega)];simp only[zaa];generalize x*y=p at b⊢;by_cases j:z<=p / 18446744073709551616
    .rw[if_pos (by omega),if_neg];have h:=(Qw ng mode (p / z) (p % z) z).1;have h2:=LM d.2 j;omega
    .rw[if_neg (by omega),X4 (by omega) (by omega)];simp only[zaa];have h:=Qw ng mode (p / z) (p % z) z;by_cases hq:p / z<=1000000000000000
     .rw[if_neg (by omega),BR _ _ (by omega) (hac _ d.2) (by omega),zaa];by_cases i:dr ng mode (p / z) (p % z) z<=1000000000000000
      .rw[if_neg (by omega),if_pos i,VB _ (by omega)];rfl
      grind
     grind
 simp_all
theorem EK(c num den mode:Int):Kt c num den mode=some (mdS c num den mode):=by
 unfold Kt mdS;rw[Lw,zaa];by_cases hm:0<=mode/\mode<=5
 .rw[if_neg (by simp_all),if_neg (Haa.2 hm)];by_cases q:den=0
  .simp_all
  .rw[if_neg q,if_neg q,Ee (by omega) (by omega),or3 (Ee (by omega) (by omega)) (Ee (by omega) (by omega))];by_cases hb:(1000000000000000<c\/c < -1000000000000000)\/(1000000000<num\/num < -1000000000)\/(1000000000<den\/den < -1000000000)
   .simp_all
   .rw[if_neg (by simp_all),if_neg hb,Ps (by omega) (by omega),zaa,Ps (by omega) (by omega),zaa,Ps (by omega) (by omega),zaa];generalize (!((!((decide (c<0))==(decide (num<0))))==(decide (den<0))))=ng;obtain⟨x,hx⟩:∃x,c.natAbs=x:=⟨_,rfl⟩;obtain⟨y,t⟩:∃x,num.natAbs=x:=⟨_,rfl⟩;obtain⟨z,u⟩:∃x,den.natAbs=x:=⟨_,rfl⟩;rw[hx,t,u];have bx:x<=1000000000000000:=by omega
    have bY:y<=1000000000:=by omega
    have d:z<=1000000000/\0<z:=by omega
    have e0:x=z*(x / z)+x % z:=(Wab _ _).symm;have e1:x % z<z:=hac _ d.2;have hdx:=fac x z;have e:(Aaa (α:=Bool) (if 0<(y:Int)then(quo .i64 (x:Int) (z:Int)).bind λf=>(quo .i64 1000000000000000 (y:Int)).bind λg=>some (decide (g<f))else some false) λj=>some j)=some (decide (0<y/\1000000000000000 / y<x / z)):=by
     by_cases i:0<y
     .rw[if_pos (by omega),TO d.2 (by omega),zaa,show(1000000000000000:Int)=((1000000000000000:Nat):Int)from rfl,TO i (by omega)];simp only[zaa,i,true_and];congr 1;grind
     grind
    have a:∀{α:Type} (k:Bool->Option α),(Aaa (α:=Bool) (if 0<(y:Int)then(quo .i64 (x:Int) (z:Int)).bind λf=>(quo .i64 1000000000000000 (y:Int)).bind λg=>some (decide (g<f))else some false) k)=k (decide (0<y/\1000000000000000 / y<x / z)):=by
     grind
    rw[a];have b:x*y=z*(x / z*y)+x % z*y:=by
     grind
    have hlo:x % z*y<=1000000000*1000000000:=aac (by omega) bY;have l:(x*y) / z=x / z*y+x % z*y / z:=by
     rw[b,Nat.mul_add_div d.2]
    have m:(x*y) % z=x % z*y % z:=by
     simp
    by_cases ho:0<y/\1000000000000000 / y<x / z
    .rw[if_pos (by grind),if_neg];have r:=(Qw ng mode (x*y / z) (x*y % z) z).1;have h2:1000000000000000<x / z*y:=(qac ho.1).1 ho.2
     grind
    .rw[if_neg (by grind),HZ d.2,zaa,TO d.2 (by omega),zaa];have hq:x / z*y<=1000000000000000:=by
      rcases Oad y with h|h
      .grind
      .have s:x / z<=1000000000000000 / y:=by
        omega
       exact Bab (Zaa y s) (nad _ _)
     have o:((x % z:Nat):Int)*(y:Int)=((x % z*y:Nat):Int):=by simp
     have p:((x / z:Nat):Int)*(y:Int)=((x / z*y:Nat):Int):=by simp
     rw[o,p];have hdl:=fac (x % z*y) z;clear o p b e a;generalize x / z*y=A at *;generalize x % z*y=L at *;rw[wid (n:=(L:Int)) (by omega) (by omega),TO d.2 (by omega),zaa,HZ d.2,zaa];generalize L / z=B at *;rw[wid (n:=(A:Int)) (by omega) (by omega),wid (by omega) (by omega),←Int.natCast_add,←l,←m];have r:=Qw ng mode (x*y / z) (x*y % z) z;rw[Wn _ _ (by omega) (hac _ d.2) (by omega),zaa,Ee (by omega) (by omega),zaa];have h2:=eP ng (dr ng mode (x*y / z) (x*y % z) z)
     grind
 simp_all
theorem Oz(n:Int):Em n=some (decide (0<=n/\n<=5)):=by
 grind[Em]
theorem ur{n k:Int}(h1:0<=k) (h2:k<9223372036854775808):Jk n k=some (decide (k<n\/n < -k)):=by
 unfold Jk;exact beyO (wid (by omega) (by omega))
theorem lj{n k:Int}(h1:0<=k) (h2:k<9223372036854775808):Of n k=some (decide (k<n\/n < -k)):=by
 unfold Of;exact beyO (by rw [wid (by omega) (by omega)];omega)
theorem vF(c r mode:Int):ux c r mode=some (mdS c r 1000000 mode):=by
 grind[ux,qK]
theorem iM(c r mode:Int):Pv c r mode=some (mdS c r 1000000 mode):=by
 grind[Pv,EK]
def ZZ(mode q r d:Int):Prop:=
 r≠0/\(mode=1\/(mode=2/\q<0)\/(mode=3/\0<=q)\/(mode=4/\(d-r<r\/(r=d-r/\0<=q)))\/(mode=5/\(d-r<r\/(r=d-r/\q % 2≠0))))
instance (mode q r d:Int):Decidable (ZZ mode q r d):=by unfold ZZ;infer_instance
def GL(mode q r d:Int):Int:=if ZZ mode q r d then q+1 else q
theorem tmod2Z(q:Int):(Taa q 2 !=0)=decide (q % 2≠0):=by
 grind
theorem PA{q r:Int}(hq:-9223372036854775808<=q/\q<9223372036854775807) (hr:0<=r/\r<d) (hd:d<9223372036854775808):Io q r d mode=some (GL mode q r d):=by
 unfold Io GL;rw[wid (n:=d-r) (by omega) (by omega),wid (n:=q+1) (by omega) (by omega),tmod2Z];by_cases a:r=0
 .rw[if_pos a,if_neg (by unfold ZZ;omega)]
 .rw[if_neg a];unfold ZZ
  grind
theorem VU(N d:Int) (hd:0<d):(Taa N d<0->N / d=Naa N d-1/\N % d=Taa N d+d)/\(¬Taa N d<0->N / d=Naa N d/\N % d=Taa N d):=by
 have a:=gae N d;have h2:=Nad N hd;have b:-d<Taa N d:=by
  rcases Int.le_total 0 N with h|h
  .have:=Int.tmod_nonneg d h;omega
  .have:=Nad (-N) hd;rw[Int.neg_tmod]at this;omega
 generalize Taa N d=r at a h2 b⊢;generalize Naa N d=q at a⊢;constructor
 .intro h;have e:N=(r+d)+d*(q-1):=by grind
  rw[e,Wac _ _ (by omega),Fac,Rac (by omega) (by omega),wad (by omega) (by omega)];omega
 .intro h;have e:N=r+d*q:=by omega
  rw[e,Wac _ _ (by omega),Fac,Rac (by omega) (by omega),wad (by omega) (by omega)];omega
theorem GD(hN:-9223372036854775807<=N/\N<=9223372036854775807) (hd:0<d) (hd2:d<9223372036854775808):Qs N d=some (N / d,N % d):=by
 have hb:-9223372036854775807<=Naa N d/\Naa N d<=9223372036854775807:=by
  have:=Int.natAbs_tdiv_le_natAbs N d;omega
 obtain⟨f1,f2⟩:=VU N d hd;have hr:=Sac N hd;have hr0:=rad N (show d≠0 by omega);unfold Qs quo rem;rw[if_neg (by omega),if_neg (by omega),zaa,zaa,wid (n:=Naa N d) (by omega) (by omega)];by_cases c:Taa N d<0
 .obtain⟨e1,e2⟩:=f1 c;rw[if_pos c,wid (by omega) (by omega),wid (by omega) (by omega),e1,e2]
 grind
theorem yA(N:Int) (d:Nat) (mode:Int) (hd:0<d) (neg:Bool) (g:N=0\/neg=decide (N<0)) (hm:0<=mode/\mode<=5) :
 ND neg (dr neg mode (N.natAbs / d) (N.natAbs % d) d)=GL mode (N / d) (N % d) d:=by
 have m:=Wab N.natAbs d;have n:=hac N.natAbs hd;obtain⟨a,ha⟩:∃a,N.natAbs / d=a:=⟨_,rfl⟩;obtain⟨b,hb⟩:∃a,N.natAbs % d=a:=⟨_,rfl⟩;rw[ha,hb]at m;rw[hb]at n;rw[ha,hb];by_cases hN:0<=N
 .have e1:N=(N.natAbs:Int):=by omega
  have q1:N / (d:Int)=(a:Int):=by grind
  have i:N % (d:Int)=(b:Int):=by grind
  rw[q1,i];have hn:b=0\/neg=false:=by
   grind
  have key:bJ neg mode a b d↔ZZ mode a b d:=by
   unfold bJ ZZ
   grind
  have p:∀k:Nat,(b=0->k=a)->ND neg k=(k:Int):=λk hk=>by
   unfold ND;rcases hn with h|h
   .have h0:a=0\/neg=false:=by
     rcases g with o|o
     .left;subst o;simp at ha;omega
     grind
    grind
   grind
  unfold dr GL;by_cases c:bJ neg mode a b d
  .rw[if_pos c,if_pos (key.1 c)];rw[p _ (λl=>absurd c (by rw[l];unfold bJ;omega))];omega
  grind
 .have e1:N = -(N.natAbs:Int):=by omega
  have hn:neg=true:=by
   grind
  subst hn;have f:N = -((d:Int)*a+b):=by omega
  unfold ND;simp only[if_true];by_cases j:b=0
  .have q1:N / (d:Int) = -(a:Int):=by
    rw[f,j];simp only[Cad,Int.add_zero];rw[←Int.mul_neg,Int.mul_ediv_cancel_left _ (by omega)]
   have i:N % (d:Int)=0:=by
    rw[f,j];simp
   rw[q1,i];unfold dr GL;rw[if_neg (by rw[j];unfold bJ;omega),if_neg (by simp[ZZ])]
  .have e:N=((d:Int)-b)+d*(-(a:Int)-1):=by grind
   have q1:N / (d:Int) = -(a:Int)-1:=by
    rw[e,Wac _ _ (by omega),Rac (by omega) (by omega)];omega
   have i:N % (d:Int)=(d:Int)-b:=by
    rw[e,Fac,wad (by omega) (by omega)]
   rw[q1,i];have key:bJ true mode a b d↔¬ZZ mode (-(a:Int)-1) ((d:Int)-b) d:=by
    unfold bJ ZZ at *
    grind
   grind[dr,GL]
def fR(a b mode:Int):Int×Int:=
 if¬(0<=mode/\mode<=5)then(0,1)else
 if(1000000000<a\/a < -1000000000)\/(1000000000<b\/b < -1000000000)then(0,3)else
 if 1000000000<GL mode (a*b / 1000000) (a*b % 1000000) 1000000\/GL mode (a*b / 1000000) (a*b % 1000000) 1000000 < -1000000000 then(0,3)else
 (GL mode (a*b / 1000000) (a*b % 1000000) 1000000,0)
theorem jN{a b:Int}(h1:¬(1000000000<a\/a < -1000000000)) (h2:¬(1000000000<b\/b < -1000000000)):-1000000000000000000<=a*b/\a*b<=1000000000000000000:=by
 have:=aac (show a.natAbs<=1000000000 by omega) (show b.natAbs<=1000000000 by omega);rw[←Qad]at this;omega
theorem CK(a b mode:Int):YB a b mode=some (fR a b mode):=by
 unfold YB fR;rw[Oz,zaa];by_cases hm:0<=mode/\mode<=5
 .rw[if_neg (by simp_all),if_neg (Haa.2 hm),ur (by omega) (by omega),or2 (ur (by omega) (by omega))];by_cases hb:(1000000000<a\/a < -1000000000)\/(1000000000<b\/b < -1000000000)
  .simp_all
  .rw[if_neg (by simp_all),if_neg hb,Rg];have c:=jN (λh=>hb (.inl h)) (λh=>hb (.inr h));generalize a*b=p at c⊢;rw[wid (by omega) (by omega)];have d:ND (!(decide (p<0)==decide ((1000000:Int)<0))) (dr (!(decide (p<0)==decide ((1000000:Int)<0))) mode (p.natAbs / 1000000) (p.natAbs % 1000000) 1000000)=GL mode (p / 1000000) (p % 1000000) 1000000:=yA p 1000000 mode (by decide) (!(decide (p<0)==decide ((1000000:Int)<0))) (.inr (by simp)) hm;unfold vT;rw[if_neg (Haa.2 hm),if_neg (by decide),if_neg (by omega)];simp only[zaa];rw[show(1000000:Int).natAbs=1000000 from rfl,d,if_neg (by simp),ur (by omega) (by omega),zaa]
   grind
 simp_all
theorem kW{n:Int}:(Aaa (α:=Bool) (if¬n<0 then some (decide (5<n))else some true) k)=k (decide (¬(0<=n/\n<=5))):=by
 grind
theorem S7(mode q r d:Int):q<=GL mode q r d/\GL mode q r d<=q+1:=by grind[GL]
theorem qR(a b mode:Int):Qz a b mode=some (fR a b mode):=by
 unfold Qz fR;rw[kW];by_cases hm:0<=mode/\mode<=5
 .rw[if_neg (by simp_all),if_neg (Haa.2 hm),lj (by omega) (by omega),or2 (lj (by omega) (by omega))];by_cases hb:(1000000000<a\/a < -1000000000)\/(1000000000<b\/b < -1000000000)
  .simp_all
  .rw[if_neg (by simp_all),if_neg hb];have c:=jN (λh=>hb (.inl h)) (λh=>hb (.inr h));generalize a*b=p at c⊢;rw[wid (by omega) (by omega),GD (by omega) (by omega) (by omega),zaa];simp only[];rw[PA (by omega) (by omega) (by omega),zaa,lj (by omega) (by omega),zaa]
   grind
 simp_all
def frS(num den mode:Int):Int×Int:=
 if¬(0<=mode/\mode<=5)then(0,1)else
 if den=0 then(0,12)else
 if(1000000000000000<num\/num < -1000000000000000)\/(1000000000000000<den\/den < -1000000000000000)then(0,3)else
 if dr (!(decide (num<0)==decide (den<0))) mode (num.natAbs*1000000 / den.natAbs) (num.natAbs*1000000 % den.natAbs) den.natAbs<=1000000000 then
  (ND (!(decide (num<0)==decide (den<0))) (dr (!(decide (num<0)==decide (den<0))) mode (num.natAbs*1000000 / den.natAbs) (num.natAbs*1000000 % den.natAbs) den.natAbs),0)
 else(0,3)
theorem HU{q d:Nat}(neg:Bool) (mode:Int) (hr:r<d) (hd:d<9223372036854775808):vr q r d neg mode=some (decide (bJ neg mode q r d)):=by
 unfold vr;rw[wuN (n:=(d:Int)-r) (by omega) (by omega),ZU,half];by_cases a:r=0
 .subst a;rw[if_pos (by rfl)];congr 1;symm;rw[decide_eq_false_iff_not];unfold bJ;omega
 .rw[if_neg (by omega)];unfold bJ;have hp:0<r:=by omega
  by_cases e0:mode=0
  .simp_all
  by_cases e1:mode=1
  .simp_all
  by_cases e3:mode=3
  .simp_all
  by_cases e4:mode=4
  .subst e4;simp;omega
  grind
theorem WI{n:Int}(h1:-9223372036854775808<n) (h2:n<9223372036854775808):aa .u64 (max n (aa .i64 (-n)))=((n.natAbs:Nat):Int):=by
 grind[wid,wuN]
theorem Nz(num den mode:Int):Mp num den mode=some (frS num den mode):=by
 unfold Mp frS;rw[Oz,zaa];by_cases hm:0<=mode/\mode<=5
 .rw[if_neg (by simp_all),if_neg (Haa.2 hm)];by_cases e:den=0
  .simp_all
  .rw[if_neg e,if_neg e,ur (by omega) (by omega),or2 (ur (by omega) (by omega))];by_cases hb:(1000000000000000<num\/num < -1000000000000000)\/(1000000000000000<den\/den < -1000000000000000)
   .simp_all
   .rw[if_neg (by simp_all),if_neg hb,WI (by omega) (by omega),WI (by omega) (by omega)];have a:(¬(decide (num<0))=(decide (den<0)))↔(!(decide (num<0)==decide (den<0)))=true:=by
     simp
    generalize (!(decide (num<0)==decide (den<0)))=ng at a⊢;obtain⟨x,hx⟩:∃x,num.natAbs=x:=⟨_,rfl⟩;obtain⟨z,h⟩:∃x,den.natAbs=x:=⟨_,rfl⟩;rw[hx,h];have bx:x<=1000000000000000:=by omega
    have d:z<=1000000000000000/\0<z:=by omega
    rw[show(1000000:Int)=((1000000:Nat):Int)from rfl,nW (by omega) (by omega)];simp only[zaa];have b:x*1000000<=1000000000000000000000:=by omega
    generalize x*1000000=p at b⊢;by_cases g:z<=p / 18446744073709551616
    .rw[if_pos (by omega),if_neg];have f:=(Qw ng mode (p / z) (p % z) z).1;have h2:=LM d.2 g;omega
    .rw[if_neg (by omega),X4 (by omega) (by omega)];simp only[zaa];have f:=Qw ng mode (p / z) (p % z) z;by_cases hq:p / z<=1000000000
     .rw[if_neg (by omega),HU _ _ (hac _ d.2) (by omega),wid (n:=((p / z:Nat):Int)) (by omega) (by omega),wid (n:=((p / z:Nat):Int)+1) (by omega) (by omega)];simp only[zaa,decide_eq_true_eq];have hfin:∀R:Nat,R<=1000000001->(if(1000000000:Int)<(R:Int)then some ((0:Int),(3:Int))else Aaa (α:=Int) (if¬(decide (num<0))=(decide (den<0))then some (aa .i64 (-(R:Int)))else some (R:Int)) λc=>some (c,0))=some (if R<=1000000000 then(ND ng R,0)else(0,3)):=by
       intro R hR;by_cases hr:R<=1000000000
       .rw[if_neg (by omega),if_pos hr];unfold ND;by_cases hn:ng=true
        .rw[if_pos (a.2 hn),if_pos hn,zaa,wid (by omega) (by omega)]
        simp_all
       grind
      grind[dr]
     grind
 simp_all
theorem mP(N d:Int) (hd:0<d) :
 N*1000000 / d=N / d*1000000+N % d*1000 / d*1000+N % d*1000 % d*1000 / d/\N*1000000 % d=N % d*1000 % d*1000 % d:=by
 have h1:=Xac N d;have h2:=Xac (N % d*1000) d;have h3:=Xac (N % d*1000 % d*1000) d;have h4:=Sac (N % d*1000 % d*1000) hd;have h5:=rad (N % d*1000 % d*1000) (show d≠0 by omega);generalize N % d*1000 % d*1000 % d=c at *;generalize N % d*1000 % d*1000 / d=b at *;generalize N % d*1000 % d=r1 at *;generalize N % d*1000 / d=a at *;generalize N % d=r at *;generalize N / d=q at *;have e:N*1000000=c+d*(q*1000000+a*1000+b):=by
  grind
 rw[e,Wac _ _ (by omega),Fac,Rac (by omega) (by omega),wad (by omega) (by omega)];omega
theorem quoP{a b:Int}(ha:0<=a/\a<9223372036854775808) (hb:0<b):quo .i64 a b=some (a / b):=by
 obtain⟨x,rfl⟩:=Saa ha.1;obtain⟨y,rfl⟩:=Saa (daf hb)
 grind[TO]
theorem remP{a b:Int}{k:IntKind}(ha:0<=a) (hb:0<b):rem k a b=some (a % b):=by
 obtain⟨x,rfl⟩:=Saa ha;obtain⟨y,rfl⟩:=Saa (daf hb)
 grind[HZ]
theorem wF(num den mode:Int):Xn num den mode=some (frS num den mode):=by
 unfold Xn frS;rw[kW];by_cases hm:0<=mode/\mode<=5
 .rw[if_neg (by simp_all),if_neg (Haa.2 hm)];by_cases k:den=0
  .simp_all
  .rw[if_neg k,if_neg k,lj (by omega) (by omega),or2 (lj (by omega) (by omega))];by_cases hb:(1000000000000000<num\/num < -1000000000000000)\/(1000000000000000<den\/den < -1000000000000000)
   .simp_all
   .rw[if_neg (by simp_all),if_neg hb];obtain⟨N,hN⟩:∃N,(if den<0 then -num else num)=N:=⟨_,rfl⟩;obtain⟨d,hd⟩:∃d,den.natAbs=d:=⟨_,rfl⟩;have a2:d<=1000000000000000/\0<d:=by omega
    have i:(if den<0 then some ((aa .i64 (0-num)),(aa .i64 (0-den)))else some (num,den))=some (N,(d:Int)):=by
     by_cases c:den<0
     .rw[if_pos c]at hN⊢;grind[wid]
     grind
    rw[i,zaa];simp only[];have h:(N*1000000).natAbs=num.natAbs*1000000:=by omega
    have g:N*1000000=0\/(!(decide (num<0)==decide (den<0)))=decide (N*1000000<0):=by
     grind
    have e:=yA (N*1000000) d mode a2.2 (!(decide (num<0)==decide (den<0))) g hm;rw[h]at e;rw[hd];obtain⟨t1,t2⟩:=mP N d (by omega);rw[t1,t2]at e;have hNb:-1000000000000000<=N/\N<=1000000000000000:=by omega
    have hdm:=Xac N d;have hr1:=Sac N (show(0:Int)<d by omega);have hr0:=rad N (show(d:Int)≠0 by omega);have big:(1001<N / d\/N / d < -1001)->¬dr (!(decide (num<0)==decide (den<0))) mode (num.natAbs*1000000 / d) (num.natAbs*1000000 % d) d<=1000000000:=by
     intro hb j;have h2:=Bab (Qw (!(decide (num<0)==decide (den<0))) mode (num.natAbs*1000000 / d) (num.natAbs*1000000 % d) d).1 j;have h3:=Wab (num.natAbs*1000000) d;have h4:=hac (num.natAbs*1000000) a2.2;have h5:=Nat.mul_le_mul_left d h2;have h6:num.natAbs=N.natAbs:=by omega
     rcases hb with hb|hb
     .have l:(d:Int)*1002<=d*(N / d):=Bad (by omega) (by omega);omega
     .have l:(d:Int)*(N / d)<=d*(-1002):=Bad (by omega) (by omega);omega
    rw[GD (by omega) (by omega) (by omega),zaa];simp only[];generalize dr (!(decide (num<0)==decide (den<0))) mode (num.natAbs*1000000 / d) (num.natAbs*1000000 % d) d=R at e big⊢;generalize (!(decide (num<0)==decide (den<0)))=ng at e⊢;clear t1 t2;generalize hqq:N / (d:Int)=q at *;generalize hrr:N % (d:Int)=r at *;rw[lj (by omega) (by omega),zaa];by_cases hq:1001<q\/q < -1001
    .simp_all
    .rw[if_neg (by simp_all)];have ha:=fae (a:=r*1000) (b:=1000) (c:=d) (by omega) (by omega);have ha0:=Pae (a:=r*1000) (b:=d) (by omega) (by omega);have s1:=Sac (r*1000) (show(0:Int)<d by omega);have s0:=rad (r*1000) (show(d:Int)≠0 by omega);rw[wid (n:=r*1000) (by omega) (by omega),quoP (by omega) (by omega),zaa,remP (by omega) (by omega),zaa];generalize r*1000 % (d:Int)=f at *;generalize r*1000 / (d:Int)=a at *;have hb:=fae (a:=f*1000) (b:=1000) (c:=d) (by omega) (by omega);have hb0:=Pae (a:=f*1000) (b:=d) (by omega) (by omega);have u1:=Sac (f*1000) (show(0:Int)<d by omega);have u0:=rad (f*1000) (show(d:Int)≠0 by omega);rw[wid (n:=f*1000) (by omega) (by omega),quoP (by omega) (by omega),zaa,remP (by omega) (by omega),zaa];generalize f*1000 % (d:Int)=r2 at *;generalize f*1000 / (d:Int)=b at *;rw[wid (n:=q*1000000) (by omega) (by omega),wid (n:=a*1000) (by omega) (by omega),wid (n:=q*1000000+a*1000) (by omega) (by omega),wid (n:=q*1000000+a*1000+b) (by omega) (by omega),PA (by omega) (by omega) (by omega),zaa,←e,lj (by omega) (by omega),zaa];have h2:=eP ng R
     grind
 simp_all
def rtS(c unit mode:Int):Int×Int:=
 if¬(0<=mode/\mode<=5)then(0,1)else
 if unit<1 then(0,12)else
 if(1000000000000000<c\/c < -1000000000000000)\/1000000000000000<unit then(0,3)else
 if 1000000000000000<ND (decide (c<0)) (dr (decide (c<0)) mode (c.natAbs / unit.natAbs) (c.natAbs % unit.natAbs) unit.natAbs)*unit\/ND (decide (c<0)) (dr (decide (c<0)) mode (c.natAbs / unit.natAbs) (c.natAbs % unit.natAbs) unit.natAbs)*unit < -1000000000000000 then(0,3)else
 (ND (decide (c<0)) (dr (decide (c<0)) mode (c.natAbs / unit.natAbs) (c.natAbs % unit.natAbs) unit.natAbs)*unit,0)
theorem ER{c unit:Int}{ng:Bool}(hc:¬(1000000000000000<c\/c < -1000000000000000)) (hu:1<=unit/\unit<=1000000000000000):-2000000000000000<=ND ng (dr ng mode (c.natAbs / unit.natAbs) (c.natAbs % unit.natAbs) unit.natAbs)*unit/\ND ng (dr ng mode (c.natAbs / unit.natAbs) (c.natAbs % unit.natAbs) unit.natAbs)*unit<=2000000000000000:=by
 have a:=(Qw ng mode (c.natAbs / unit.natAbs) (c.natAbs % unit.natAbs) unit.natAbs).2;have h2:(ND ng (dr ng mode (c.natAbs / unit.natAbs) (c.natAbs % unit.natAbs) unit.natAbs)*unit).natAbs<=2000000000000000:=by
  rw[Qad,eP];have h3:=Zaa unit.natAbs a;have h4:=nad c.natAbs unit.natAbs
  grind
 omega
theorem or2'{a b:Prop} [Decidable a] [Decidable b] :(Aaa (α:=Bool) ((some (decide a)).bind λx=>if x=false then some (decide b)else some true) k)=k (decide (a\/b)):=by
 grind
theorem NA(c unit mode:Int):tr c unit mode=some (rtS c unit mode):=by
 unfold tr rtS;rw[It,zaa];by_cases hm:0<=mode/\mode<=5
 .rw[if_neg (by simp_all),if_neg (Haa.2 hm)];by_cases d:unit<1
  .simp_all
  .rw[if_neg d,if_neg d,ij (by omega) (by omega),or2'];by_cases hb:(1000000000000000<c\/c < -1000000000000000)\/1000000000000000<unit
   .simp_all
   .rw[if_neg (by simp_all),if_neg hb,Rg];have a:=ER (c:=c) (unit:=unit) (mode:=mode) (ng:=decide (c<0)) (λh=>hb (.inl h)) (by omega);unfold vT;rw[if_neg (Haa.2 hm),if_neg (by omega),if_neg (by omega)];have hu:decide (unit<0)=false:=by grind
    simp only[zaa,hu];have b:(!(decide (c<0)==false))=decide (c<0):=by simp
    rw[b];generalize ND (decide (c<0)) (dr (decide (c<0)) mode (c.natAbs / unit.natAbs) (c.natAbs % unit.natAbs) unit.natAbs)*unit=q at a⊢;rw[if_neg (by simp),wid (by omega) (by omega),ij (by omega) (by omega),zaa]
    grind
 simp_all
theorem qI(c unit mode:Int):xr c unit mode=some (rtS c unit mode):=by
 unfold xr rtS;rw[Lw,zaa];by_cases hm:0<=mode/\mode<=5
 .rw[if_neg (by simp_all),if_neg (Haa.2 hm)];by_cases b:unit<1
  .simp_all
  .rw[if_neg b,if_neg b,Ee (by omega) (by omega),or2'];by_cases hb:(1000000000000000<c\/c < -1000000000000000)\/1000000000000000<unit
   .simp_all
   .rw[if_neg (by simp_all),if_neg hb,Ps (by omega) (by omega),zaa];have a:=ER (c:=c) (unit:=unit) (mode:=mode) (ng:=decide (c<0)) (λh=>hb (.inl h)) (by omega);obtain⟨u,rfl⟩:=Saa (show 0<=unit by omega);have hl:=fac c.natAbs u;rw[TO (by omega) (by omega),zaa,HZ (by omega),zaa,Wn _ _ (by omega) (hac _ (by omega)) (by omega),zaa];rw[show(Int.natAbs (u:Int))=u from rfl]at a⊢;generalize ND (decide (c<0)) (dr (decide (c<0)) mode (c.natAbs / u) (c.natAbs % u) u)*(u:Int)=q at a⊢;rw[wid (by omega) (by omega),Ee (by omega) (by omega),zaa]
    grind
 simp_all
theorem ZB(hl:l.length<=1048576):∃r,Mq l x=some r/\r.length<=l.length+1/\∀y,y∈r↔y∈l\/y=x:=by
 unfold Mq;have hf:∀(p:Int->Bool) i,((l.take i).filter p).length<=l.length:=λp i=>by
  grind
 have e1:=Ew (step:=Zn l x) (l:=l) rfl (λl=>l.filter λy=>decide (y<x)) [] (λi hi=>by
  have a:=hf (λy=>decide (y<x)) i;rw[Xf hi,uab];have ha:=uf (b:=8) (show(((l.take i).filter λy=>decide (y<x)).length + [l[i]].length)*8<=140737488355328 by grind);generalize ((l.take i).filter λy=>decide (y<x))=w at *;unfold Zn;dsimp only;rw[if_pos (by omega),ya hi,zaa,sa (by omega),qab]
  grind) (λy=>by grind[Zn]) rfl
 rw[qab]at e1;rw[e1,zaa];dsimp only;have h0:=Yaa (λy=>decide (y<x)) l;rw[uf (by grind),zaa];have e2:=Ew (step:=Yn l x) (l:=l) rfl (λl=>l.filter λy=>decide (x<y)) ((l.filter λy=>decide (y<x))++[x]) (λi hi=>by
  have a:=hf (λy=>decide (x<y)) i;rw[Xf hi,uab];have ha:=uf (b:=8) (show((((l.filter λy=>decide (y<x))++[x])++((l.take i).filter λy=>decide (x<y))).length + [l[i]].length)*8<=140737488355328 by grind);generalize ((l.take i).filter λy=>decide (x<y))=w at *;generalize ((l.filter λy=>decide (y<x))++[x])=w0 at *;unfold Yn;dsimp only;rw[if_pos (by omega),ya hi,zaa,sa (by omega)]
  grind) (λy=>by grind[Yn]) rfl
 rw[e2];refine⟨_,rfl,?_,λy=>?_⟩
 .have k:∀l:List Int,(l.filter λy=>decide (y<x)).length+(l.filter λy=>decide (x<y)).length<=l.length:=by
   intro l
   induction l with
   |nil=>simp
   |cons y l ih=>
    grind
  grind
 grind
theorem mE{l:List GDateRange}(hl:l.length<=65536):∃r,Hm l=some r/\r.length<=2*l.length/\∀y,y∈r↔y∈ends l:=by
 unfold Hm;obtain⟨b,h1,h2,h3⟩:=WQ (step:=wi l) (λj s=>s.2=(j:Int)/\s.1.length<=2*j/\∀y,y∈s.1↔y∈ends (l.take j)) l.length (λb=>b.length<=2*l.length/\∀y,y∈b↔y∈ends l) (λj s hj ⟨a,c,d⟩=>by
  obtain⟨s,jj⟩:=s;dsimp only at a c d;subst a;unfold wi;dsimp only;rw[if_pos (by omega),ya hj,zaa,OG,zaa,sa (by omega)];have hm:∀y,y∈ends (l.take (j+1))↔y∈ends (l.take j)\/(lN l[j]=true/\(y=l[j].n\/y=l[j].To)):=λy=>by
   grind[ends,Xf,NJ]
  cases hb:lN l[j]
  .exact⟨_,by rw[if_neg (by simp)];rfl,rfl,by grind,λy=>by simp_all⟩
  .obtain⟨f,a1,a2,a3⟩:=ZB (l:=s) (x:=l[j].n) (by omega);obtain⟨r2,e,b2,b3⟩:=ZB (l:=f) (x:=l[j].To) (by omega);refine⟨_,by rw[if_pos rfl,a1,zaa,e,zaa,zaa],rfl,by grind,λy=>?_⟩
   grind) (λs ⟨a,c,d⟩=>by
  simp_all[wi]) l.length 0 ([],0) (by omega) ⟨rfl,by simp,by simp[ends]⟩
 simp_all
theorem JK(hq:q.length<=1048576):Tt q=some (q.filter Ii):=by
 unfold Tt;have e2:=Ew (step:=jo q) (l:=q) rfl (λl=>l.filter Ii) [] (λi hi=>by
  have h1:=Yaa Ii (q.take i);have h2:(q.take i).length<=q.length:=by grind
  rw[Xf hi,uab];have ha:=uf (b:=8) (show(((q.take i).filter Ii).length + [q[i]].length)*8<=140737488355328 by grind);generalize ((q.take i).filter Ii)=w at *;unfold jo;dsimp only;rw[if_pos (by omega),ya hi,zaa,sa (by omega)]
  grind[Ii]) (λx=>by grind[jo]) rfl
 simp_all
theorem jD{l:GLaw}(h:FewR l):∃r,Th l=some r/\r.length<=65536/\∀y,y∈r↔y∈(Pd (ends (qw l.Tables++ow l.e))).filter Ii:=by
 have hnt:=h.nt;have hns:=h.ns;have h1:=Nx h.t;have h2:=Ix h.s;unfold Th;rw[wR h,zaa];dsimp only;rw[vR h (by omega),zaa];dsimp only;obtain⟨r,a1,a2,a3⟩:=mE (l:=qw l.Tables++ow l.e) (by grind);rw[kab]at a2;rw[a1,zaa,JK (by omega)];have:=Yaa Ii r;refine⟨_,rfl,by omega,λy=>?_⟩
 grind[Gg]
theorem dC(hl:l.length<=1048576):∃r,Zk l x=some r/\r.length<=l.length+1/\∀y,y∈r↔y∈l\/y=x:=by
 unfold Zk;obtain⟨⟨b,d⟩,c,h2,h⟩:=WQ (step:=vo l x) (λj s=>s.2.2=(j:Int)/\s.1.length<=j+(if s.2.1=true then 1 else 0)/\∀y,y∈s.1↔y∈l.take j\/(s.2.1=true/\y=x)) l.length (λb=>b.1.length<=l.length+(if b.2=true then 1 else 0)/\∀y,y∈b.1↔y∈l\/(b.2=true/\y=x)) (λj s hj ⟨e,f,g⟩=>by
  obtain⟨s,d,jj⟩:=s;dsimp only at e f g;subst e;have hs:s.length<=j+1:=by grind
  unfold vo;dsimp only;rw[if_pos (by omega),ya hj,sa (by omega)];have ha1:=uf (b:=8) (l:=s) (r:=[x]) (by grind);have a:=uf (b:=8) (l:=s) (r:=[l[j]]) (by grind);have ha3:=uf (b:=8) (l:=s++[x]) (r:=[l[j]]) (by grind);have ht:∀y,y∈l.take (j+1)↔y∈l.take j\/y=l[j]:=λy=>by grind[Xf]
  cases d with
  |true=>
   refine⟨_,by simp[a];rfl,by simp,by simp_all,λy=>?_⟩
   grind
  |false=>
   simp at f g;by_cases c:x<=l[j]
   .by_cases h2:x<l[j]
    .refine⟨(s++[x]++[l[j]],true,((j+1:Nat):Int)),by simp_all,rfl,by simp_all,λy=>?_⟩
     grind
    .have hx:x=l[j]:=by omega
     simp_all
   .refine⟨_,by simp[c,a];rfl,by simp,by simp_all,λy=>?_⟩
    simp_all) (λs ⟨e,f,g⟩=>by
  simp_all[vo]) l.length 0 ([],false,0) (by omega) ⟨rfl,by simp,by simp⟩
 rw[c,zaa];dsimp only at h2 h⊢
 cases d with
 |true=>simp_all
 |false=>
  simp at h2 h;rw[if_pos rfl,uf (by grind),zaa]
  simp_all
theorem kD{l:List GFact}(t1:Int) (hl:l.length<=65536):∃r,Uh l t1=some r/\r.length<=2*l.length/\∀y,y∈r↔y∈(Pd (ends (CE t1 l))).filter Ii:=by
 unfold Uh;obtain⟨b,h,h2,h3⟩:=WQ (step:=Eh l t1) (λj s=>s.2=(j:Int)/\s.1.length<=2*j/\∀y,y∈s.1↔y∈ends (CE t1 (l.take j))/\Ii y=true) l.length (λb=>b.length<=2*l.length/\∀y,y∈b↔y∈ends (CE t1 l)/\Ii y=true) (λj s hj ⟨c,f,g⟩=>by
  obtain⟨s,jj⟩:=s;dsimp only at c f g;subst c;unfold Eh;dsimp only;rw[if_pos (by omega),ya hj,sa (by omega)];simp only[zaa,Vz];have hm:∀y,y∈ends (CE t1 (l.take (j+1)))↔y∈ends (CE t1 (l.take j))\/(known t1 l[j]=true/\(y=l[j].w.n\/y=l[j].w.To)):=λy=>by
   grind[known,CE,ends,Xf,NJ]
  cases hk:known t1 l[j]with
  |false=>
   refine⟨(s,((j+1:Nat):Int)),?_,rfl,by grind,λy=>by simp_all⟩
   grind[known]
  |true=>
   have hk':=hk;unfold known at hk;simp at hk;obtain⟨hr,hn⟩:=hk;have a:=hn;unfold lN at hn;simp at hn;rw[if_pos (by omega)];simp only[a,Rab,zaa,Eaa,if_false];obtain⟨r1,a1,a2,a3⟩:=dC (l:=s) (x:=l[j].w.n) (by omega);have hd1:∀y,y=l[j].w.n->(Ii y=true↔1<=l[j].w.n):=λy i=>by grind[Ii]
   have hd2:∀y,y=l[j].w.To->(Ii y=true↔l[j].w.To<=109572):=λy i=>by grind[Ii]
   obtain⟨q,q1,q2,q3⟩:∃q,(if 1<=l[j].w.n then(Zk s l[j].w.n).bind λd=>some d else some s)=some q/\q.length<=s.length+1/\∀y,y∈q↔y∈s\/(y=l[j].w.n/\Ii y=true):=by
    grind
   rw[q1,zaa];obtain⟨r2,b1,b2,b3⟩:=dC (l:=q) (x:=l[j].w.To) (by omega);obtain⟨p,k,p2,p3⟩:∃p,(if l[j].w.To<=109572 then(Zk q l[j].w.To).bind λe=>some e else some q)=some p/\p.length<=q.length+1/\∀y,y∈p↔y∈q\/(y=l[j].w.To/\Ii y=true):=by
    grind
   rw[k,zaa]
   grind) (λs ⟨c,f,g⟩=>by
  simp_all[Eh]) l.length 0 ([],0) (by omega) ⟨rfl,by simp,by simp[ends,CE]⟩
 rw[h];refine⟨b,rfl,h2,λy=>?_⟩
 grind[Gg]
theorem bN{σ β ρ:Type}{step:σ->Option (Ex σ β ρ)}(I:σ->Prop) (a:σ->Nat) (Q:β->Prop) (h:∀s,I s->(∃s',step s=some (.go s')/\I s'/\a s'<a s)\/∃b,step s=some (.brk b)/\Q b) :
 ∀(n:Nat) (s:σ),a s<=n->I s->∃b,ca step s=some (.inl b)/\Q b
 |0,s,hn,hi=>by
  grind[vc]
 |n+1,s,hn,hi=>by
  rcases h s hi with⟨s',c,h2,h3⟩|⟨b,c,h2⟩
  .obtain⟨b,h4,h5⟩:=bN I a Q h n s' (by omega) h2
   grind[yg]
  grind[vc]
theorem wu{n:Int}(h1:0<=n) (h2:n<9223372036854775808):aa .u64 n=n:=by
 grind[aa]
theorem mid{i:Nat}(h:i+j<4611686018427387904):aa .i64 (Int.fdiv (aa .u64 (aa .i64 ((i:Int)+(j:Int)))) 2)=(((i+j) / 2:Nat):Int):=by
 grind[wid,wu]
theorem kT(x y:Int):cmp_Less_int x y=some (decide (x<y)):=by
 grind[cmp_Less_int,cmp_isNaN_int]
theorem R9{t:Int}(hq:q.Pairwise (·<·)) (hl:q.length<=1048576):∃(k:Nat) (b:Bool),Xc q t=some ((k:Int),b)/\k<=q.length/\(∀i (hi:i<q.length),i<k->q[i]<t)/\∀i (hi:i<q.length),k<=i->t<=q[i]:=by
 have f:=Vab.1 hq;unfold Xc;obtain⟨b,g,k,rfl,h2,a,c⟩:=bN (step:=Md q t) (λs=>∃i j:Nat,s=((i:Int),(j:Int))/\i<=j/\j<=q.length/\(∀p (f:p<q.length),p<i->q[p]<t)/\∀p (f:p<q.length),j<=p->t<=q[p]) (λs=>(s.2-s.1).toNat) (λb=>∃k:Nat,b=(k:Int)/\k<=q.length/\(∀i (hi:i<q.length),i<k->q[i]<t)/\∀i (hi:i<q.length),k<=i->t<=q[i]) (by
  rintro s ⟨i,j,rfl,a1,a2,a3,a4⟩;unfold Md;dsimp only;by_cases hij:i<j
  .left;rw[if_pos (by omega),mid (by omega),ya (show(i+j) / 2<q.length by omega),zaa,kT,zaa];by_cases hx:q[(i+j) / 2]'(by omega)<t
   .refine⟨_,by rw[if_pos (by simp_all),sa (by omega)],⟨(i+j) / 2+1,j,rfl,by omega,a2,λp d e=>?_,a4⟩,by omega⟩
    grind
   .refine⟨_,by grind,⟨i,(i+j) / 2,rfl,by omega,by omega,a3,λp d e=>?_⟩,by omega⟩
    grind
  grind) q.length (0,(q.length:Int)) (by simp) ⟨0,q.length,rfl,by omega,by omega,by omega,by omega⟩
 rw[g,zaa];dsimp only;unfold bn;by_cases hk:k<q.length
 .rw[if_pos (by omega),ya hk,zaa];by_cases he:q[k]=t
  .exact⟨k,true,by grind,h2,a,c⟩
  .exact⟨k,false,by grind,h2,a,c⟩
 .exact⟨k,false,by grind,h2,a,c⟩
def Nv(to:Int):Int->List Int->List GDateRange
 |a,[]=>[⟨a,to⟩]
 |a,x::l=>⟨a,x⟩::Nv to x l
theorem MG{to:Int}:∀{a:Int}{l:List Int},(Nv to a l).length=l.length+1
 |_,[]=>rfl
 |_,x::l=>by simp[Nv,MG (a:=x) (l:=l)]
def inside(r:GDateRange) (x:Int):Bool:=decide (r.n<x)&&decide (x<r.To)
theorem nB{r:GDateRange}(hq:q.Pairwise (·<·)) (hl:q.length<=65536) (hr:0<=r.n/\r.n<r.To/\r.To<=1000000):bt r q=some (Nv r.To r.n (q.filter (inside r))):=by
 unfold bt;rw[wid (by omega) (by omega)];obtain⟨k,b,e,h2,h3,h4⟩:=R9 (t:=r.n+1) hq (by omega);rw[e,zaa];dsimp only;have hp:=Vab.1 hq;have hf:q.filter (inside r)=(q.drop k).filter λx=>decide (x<r.To):=by
  conv=>lhs;rw[←List.take_append_drop k q]
  rw[uab];have e1:(q.take k).filter (inside r)=[]:=by
   rw[Eac];intro x hx;obtain⟨i,hi,rfl⟩:=Maa hx
   grind[inside]
  rw[e1,qab];refine List.filter_congr λx hx=>?_;obtain⟨i,hi,rfl⟩:=Maa hx
  grind[inside]
 rw[hf];obtain⟨⟨s2,h⟩,g1,g2,g3⟩:=bN (step:=Jr r q) (λs=>∃j:Nat,s.2.2=(j:Int)/\j<=q.length/\s.2.1.length<=j/\Nv r.To r.n ((q.drop k).filter λx=>decide (x<r.To))=s.2.1++Nv r.To s.1 ((q.drop j).filter λx=>decide (x<r.To))) (λs=>((q.length:Int)-s.2.2).toNat) (λb=>b.2.length<=q.length/\Nv r.To r.n ((q.drop k).filter λx=>decide (x<r.To))=b.2++[⟨b.1,r.To⟩]) (by
  rintro⟨s2,h,s4⟩ ⟨j,d,f,g,c⟩;dsimp only at d f g c;subst d;unfold Jr;dsimp only;by_cases hj:j<q.length
  .rw[if_pos (by omega),ya hj,zaa,zaa];have hd:q.drop j=q[j]::q.drop (j+1):=mab hj;by_cases hx:q[j]<r.To
   .left;refine⟨_,by rw[if_pos (by grind),zaa,uf (by grind),zaa,sa (by omega)],⟨j+1,rfl,by omega,by grind,?_⟩,by grind⟩
    grind[Nv]
   .right;refine⟨_,by rw[if_neg (by grind)],by grind,?_⟩;dsimp only;have:(q.drop j).filter (λx=>decide (x<r.To))=[]:=by
     rw[Eac];intro x a;obtain⟨i,hi,rfl⟩:=Maa a
     grind
    rw[c,this];rfl
  .right;refine⟨_,by rw[if_neg (by omega)];rfl,by grind,?_⟩;dsimp only;rw[c,List.drop_eq_nil_of_le (by omega)];rfl) q.length (r.n,[],(k:Int)) (by simp) ⟨k,rfl,h2,by simp,by simp⟩
 grind[uf]
theorem sJ(x:Int) (hl:l.length<=1048576):Xm l x=some (l.contains x):=by
 unfold Xm;have h:=xb (step:=kl l x) (x0:=0) (λi=>(i:Int)) (λi=>if(l[i]?.any λy=>y==x)=true then some true else none) l.length () (λi hi _=>by
  unfold kl;rw[if_pos (by omega),ya hi,zaa,sa (by omega),Baa hi]
  grind[aD]) (λ_=>by grind[kl])
 rw[h];have h2:=Ku (l:=l) (q:=λy=>y==x) (g:=λ_=>true);have b:l.contains x=l.any λy=>y==x:=by
  grind
 rw[b,←h2]
 cases hf:ff (λi=>if(l[i]?.any λy=>y==x)=true then some true else none) l.length with
 |none=>rfl
 |some v=>
  obtain⟨j,-,a,-⟩:=Pa.1 hf;split at a
  .injection a with a;subst a;rfl
  simp_all
theorem SK{a b:List Int}{r:GDateRange}(hq:q.Pairwise (·<·)) (ha:a.length<=1048576) (hb:b.length<=1048576) (hm:∀x,x∈q↔x∈a\/x∈b) (hr:0<=r.n/\r.n<r.To/\r.To<=1000000):eu r a b=some (Nv r.To r.n (q.filter (inside r))):=by
 unfold eu;rw[wid (by omega) (by omega)];obtain⟨⟨s2,s3⟩,g1,g2,g3⟩:=bN (step:=Tr r a b) (λs=>r.n<s.2.2/\s.2.2<=r.To/\s.1.length<=(s.2.2-r.n).toNat/\Nv r.To r.n (q.filter (inside r))=s.1++Nv r.To s.2.1 (q.filter λx=>decide (s.2.2<=x)&&decide (x<r.To))) (λs=>(r.To-s.2.2).toNat) (λc=>c.1.length<=1000000/\Nv r.To r.n (q.filter (inside r))=c.1++[⟨c.2,r.To⟩]) (by
  rintro⟨s1,s2,d⟩ ⟨i,j,k,g⟩;dsimp only at i j k g;unfold Tr;dsimp only;by_cases hd:d<r.To
  .left;rw[if_pos hd,sJ d ha,sJ d hb,wid (n:=d+1) (by omega) (by omega)];have hc:(Aaa (if a.contains d=false then some (b.contains d)else some true) λh=>(if h=true then(app 16 s1 [GDateRange.mk s2 d]).bind λe=>some (e,d)else some (s1,s2)))=if d∈q then some (s1++[⟨s2,d⟩],d)else some (s1,s2):=by
    grind[uf]
   have hsp:(q.filter λx=>decide (d<=x)&&decide (x<r.To))=if d∈q then d::(q.filter λx=>decide (d+1<=x)&&decide (x<r.To))else q.filter λx=>decide (d+1<=x)&&decide (x<r.To):=by
    clear g hm hc
    induction q with
    |nil=>simp
    |cons x l ih=>
     have hq':=List.pairwise_cons.1 hq
     grind
   simp only[zaa];rw[show(Aaa (if a.contains d=false then some (b.contains d)else some true) λh=>(if h=true then(app 16 s1 [GDateRange.mk s2 d]).bind λe=>some (e,d)else some (s1,s2)))=_ from hc];by_cases f:d∈q
   .rw[if_pos f,zaa];refine⟨_,rfl,⟨by grind,by grind,by grind,?_⟩,by grind⟩
    simp_all[Nv]
   .rw[if_neg f,zaa]
    grind
  .right;refine⟨_,by rw[if_neg hd],by grind,?_⟩;dsimp only;have:(q.filter λx=>decide (d<=x)&&decide (x<r.To))=[]:=by
    grind[Eac]
   rw[g,this];rfl) 1000000 ([],r.n,r.n+1) (by grind) ⟨by grind,by grind,by simp,by
    dsimp only;rw[qab];congr 1⟩
 grind[uf]
theorem ZP{a b:List Int}(ha:a.length<=1048576) (hb:b.length<=1048576):nh [a,b]=some (a++b):=by
 unfold nh;have e1:ca (ph [a,b]) (0,0)=some (.inl ((a.length:Int)+b.length)):=by
  rw[yg (s':=((a.length:Int),1)),yg (s':=((a.length:Int)+b.length,2)),vc (b:=(a.length:Int)+b.length)]
  all_goals grind[ph,idx,wid]
 rw[e1,zaa];dsimp only;have e2:mh ((a.length:Int)+b.length)=some []:=by
  unfold mh;rw[if_neg (by omega)];have w0:aa .i64 (0-0)=0:=wid (by omega) (by omega);rw[w0,Int.sub_zero,wid (by omega) (by omega)]
  grind[mka,ju]
 rw[e2,zaa];have e3:ca (oh [a,b]) ([],0)=some (.inl (a++b)):=by
  rw[yg (s':=(a,1)),yg (s':=(a++b,2)),vc (b:=a++b)]
  all_goals grind[oh,idx,uf,wid]
 simp_all
def LawSz(l:GLaw):Prop:=∀t∈l.Tables,t.Rows.length<=1125899906842624
theorem oF{σ1 σ2 β1 β2 ρ1 ρ2:Type}{s1:σ1->Option (Ex σ1 β1 ρ1)}{s2:σ2->Option (Ex σ2 β2 ρ2)}(I:σ1->σ2->Prop) (a:σ1->Nat) (QB:β1->β2->Prop) (QR:ρ1->ρ2->Prop)
 (h:∀x y,I x y->(∃d e,s1 x=some (.go d)/\s2 y=some (.go e)/\I d e/\a d<a x)\/(∃b c,s1 x=some (.brk b)/\s2 y=some (.brk c)/\QB b c)\/∃b c,s1 x=some (.ret b)/\s2 y=some (.ret c)/\QR b c) :
 ∀(n:Nat) x y,a x<=n->I x y->(∃b c,ca s1 x=some (.inl b)/\ca s2 y=some (.inl c)/\QB b c)\/∃b c,ca s1 x=some (.inr b)/\ca s2 y=some (.inr c)/\QR b c:=by
 intro n
 induction n with
 |zero=>
  grind[vc,Ms]
 |succ n ih=>
  grind[yg,vc,Ms]
def JO(date key:Int) (r:GRow):Bool:=jy r.w date&&(decide (r.Lo<=key)&&decide (key<r.Hi))
theorem TF(r:GRow) (date key:Int):kg r date key=some (JO date key r):=by
 grind[kg,JO,We]
theorem wI(r:GRow) (date key:Int):Ar r date key=some (JO date key r):=by
 grind[Ar,JO,Kq]
noncomputable def Hz(t:GTable) (date key:Int):Int×Bool:=
 match ff (λi=>if(t.Rows[i]?.any (JO date key))=true then some ((i:Int),true)else none) t.Rows.length with
 |some v=>v
 |none=>(0,false)
theorem qC{t:GTable}(hl:t.Rows.length<=1048576) (date key:Int):ku t date key=some (Hz t date key):=by
 have a:ca (Ib t.Rows (λy=>kg y date key)) 0=some (Eb () (ff (λi=>if(t.Rows[i]?.any (JO date key))=true then some ((i:Int),true)else none) t.Rows.length)):=
  xb (λi=>(i:Int)) _ t.Rows.length () (λi hi _=>by
   unfold Ib;rw[if_pos (by omega),ya hi,Baa hi]
   grind[aD,TF,sa]) (λ_=>by grind[Ib])
 unfold ku Ub Hz;rw[a,zaa];cases h:ff (λi=>if(t.Rows[i]?.any (JO date key))=true then some ((i:Int),true)else none) t.Rows.length<;>rfl
theorem IK{t:GTable}(hl:t.Rows.length<=1048576) (date key:Int):Nq t date key=some (Hz t date key):=by
 have a:ca (fo t date key) 0=some (Eb () (ff (λi=>if(t.Rows[i]?.any (JO date key))=true then some ((i:Int),true)else none) t.Rows.length)):=
  xb (λi=>(i:Int)) _ t.Rows.length () (λi hi _=>by
   unfold fo;rw[if_pos (by omega),ya hi,Baa hi]
   grind[aD,wI,sa]) (λ_=>by grind[fo])
 unfold Nq Hz;rw[a,zaa];cases h:ff (λi=>if(t.Rows[i]?.any (JO date key))=true then some ((i:Int),true)else none) t.Rows.length<;>rfl
theorem VQ{t:GTable}{date key:Int}(h:(Hz t date key).2=true):∃i:Nat,(Hz t date key).1=(i:Int)/\i<t.Rows.length:=by
 unfold Hz at h⊢;split
 .rename_i v hv;obtain⟨i,h1,h2,-⟩:=Pa.1 hv
  grind
 simp_all
def rJ(len n:Nat):Option (Nat×Nat):=if 1000000000000000<len*n / 1000000 then none else some (len*n / 1000000,len*n % 1000000)
def gO(neg:Bool):Option (Nat×Nat)->Int×Int×Bool
 |none=>(0,0,false)
 |some (q,r)=>(ND neg q,ND neg r,true)
theorem dw{n:Int}(a:len<=1000000000000000) (h2:-1000000000<=n/\n<=1000000000):Ij len n=some (gO (decide (n<0)) (rJ len n.natAbs)):=by
 unfold Ij;have e:(if n<0 then some (aa .u64 (-(aa .u64 n)))else some (aa .u64 n))=some (n.natAbs:Int):=by
  have:=Qh (n:=n) (by omega) (by omega);exact this
 rw[e,zaa,wuN (n:=(len:Int)) (by omega) (by omega),nW (by omega) (by omega),zaa];have b:len*n.natAbs<=1000000000000000*1000000000:=aac a (by omega);unfold rJ;generalize len*n.natAbs=p at b⊢;dsimp only;rw[if_neg (by omega),show(1000000:Int)=((1000000:Nat):Int)from rfl,X4 (by omega) (by omega),zaa];dsimp only;by_cases hq:1000000000000000<p / 1000000
 .rw[if_pos (by omega),if_pos hq];rfl
 .rw[if_neg (by omega),if_neg hq,wid (n:=((p / 1000000:Nat):Int)) (by omega) (by omega),wid (n:=((p % 1000000:Nat):Int)) (by omega) (by omega)];by_cases hn:n<0
  .rw[if_pos hn,wid (by omega) (by omega),wid (by omega) (by omega),decide_eq_true hn];rfl
  .rw[if_neg hn,decide_eq_false hn];rfl
theorem cC{n:Int}(h0:0<len) (h1:len<=1000000000000000) (h2:-1000000000<=n/\n<=1000000000):oj len n=some (gO (decide (n<0)) (rJ len n.natAbs)):=by
 unfold oj;have e:(if n<0 then some (aa .u64 ((aa .u64 (aa .i64 (-(aa .i64 (n+1)))))+1))else some (aa .u64 n))=some (n.natAbs:Int):=by
  by_cases hn:n<0
  .rw[if_pos hn,wid (n:=n+1) (by omega) (by omega),wid (by omega) (by omega),wuN (n:=-(n+1)) (by omega) (by omega),wuN (by omega) (by omega)];grind
  .rw[if_neg hn,wuN (by omega) (by omega)];grind
 rw[e,zaa];obtain⟨m,hm⟩:∃m,n.natAbs=m:=⟨_,rfl⟩;rw[hm];have hm2:m<=1000000000:=by omega
 have e1:aa .i64 (aa .u64 (Naa (m:Int) 1000000))=((m / 1000000:Nat):Int):=by
  grind[wuN,wid]
 have e2:aa .i64 (Taa (m:Int) 1000000)=((m % 1000000:Nat):Int):=by
  grind[wid]
 have e3:aa .i64 (Naa (len:Int) 1000000)=((len / 1000000:Nat):Int):=by
  grind[wid]
 have e4:Taa (len:Int) 1000000=((len % 1000000:Nat):Int):=by
  grind
 rw[e1,e2,e3,e4];have c:len*m=1000000*(len*(m / 1000000)+len / 1000000*(m % 1000000))+len % 1000000*(m % 1000000):=by
  grind[Wab]
 have hq:len*m / 1000000=len*(m / 1000000)+len / 1000000*(m % 1000000)+len % 1000000*(m % 1000000) / 1000000:=by
  omega
 have hr:len*m % 1000000=len % 1000000*(m % 1000000) % 1000000:=by
  omega
 have b1:len / 1000000*(m % 1000000)<=1000000000*1000000:=aac (by omega) (by omega);have b2:len % 1000000*(m % 1000000)<=1000000*1000000:=aac (by omega) (by omega);unfold rJ;rw[hq,hr];have a:∀{α:Type} (k:Bool->Option α),(Aaa (α:=Bool) (if 0<((m / 1000000:Nat):Int)then(quo .i64 1000000000000000 ((m / 1000000:Nat):Int)).bind λd=>some (decide (d<(len:Int)))else some false) k)=k (decide (0<m / 1000000/\1000000000000000 / (m / 1000000)<len)):=by
  intro α k;by_cases h:0<m / 1000000
  .rw[if_pos (by omega),show(1000000000000000:Int)=((1000000000000000:Nat):Int)from rfl,TO h (by omega),zaa,zaa];congr 1
   grind
  grind
 rw[a];clear c hq hr a;by_cases ho:0<m / 1000000/\1000000000000000 / (m / 1000000)<len
 .rw[if_pos (by simp_all),if_pos]
  .rfl
  .have h3:1000000000000000<len*(m / 1000000):=(qac ho.1).1 ho.2;omega
 .rw[if_neg (by simp_all)];have b3:len*(m / 1000000)<=1000000000000000:=by
   rcases Oad (m / 1000000)with h|h
   .grind
   .have b:len<=1000000000000000 / (m / 1000000):=by
     omega
    exact Bab (Zaa _ b) (nad _ _)
  rw[←Fad,←Fad,←Fad];generalize len*(m / 1000000)=A at *;generalize len / 1000000*(m % 1000000)=B at *;generalize len % 1000000*(m % 1000000)=C at *;have e5:aa .i64 (Naa (aa .i64 (C:Int)) 1000000)=((C / 1000000:Nat):Int):=by
   grind[wid]
  have e6:Taa (aa .i64 (C:Int)) 1000000=((C % 1000000:Nat):Int):=by
   grind[wid]
  rw[e5,e6,wid (n:=(A:Int)) (by omega) (by omega),wid (n:=(B:Int)) (by omega) (by omega),wid (n:=(A:Int)+B) (by omega) (by omega),wid (n:=(A:Int)+B+((C / 1000000:Nat):Int)) (by omega) (by omega)];by_cases hQ:1000000000000000<A+B+C / 1000000
  .rw[if_pos (by omega),if_pos hQ];rfl
  .rw[if_neg (by omega),if_neg hQ];by_cases hn:n<0
   .rw[if_pos hn,wid (by omega) (by omega),wid (by omega) (by omega),decide_eq_true hn];rfl
   .rw[if_neg hn,decide_eq_false hn];rfl
theorem qJ{neg:Bool}{n:Nat}:-1000000000000000<=(gO neg (rJ len n)).1/\(gO neg (rJ len n)).1<=1000000000000000/\-1000000<=(gO neg (rJ len n)).2.1/\(gO neg (rJ len n)).2.1<=1000000:=by
 grind[rJ,gO,ND]
def rsS(w m mode:Int):Int:=GL mode ((w*1000000+m) / 1000000) ((w*1000000+m) % 1000000) 1000000
theorem xI(hm:0<=mode/\mode<=5) (hw:-2000000000000000000<=w/\w<=2000000000000000000) (hr:-1000000000000<=m/\m<=1000000000000):Br w m mode=some (rsS w m mode):=by
 obtain⟨T,u⟩:∃T,w*1000000+m=T:=⟨_,rfl⟩;have A:∃b,ca Jm (w,m)=some (.inl b)/\(b.1*1000000+b.2=T/\0<=b.2/\b.2<=1000000000000/\-3000000000000000000<=b.1/\b.1<=3000000000000000000):=by
  refine bN (step:=Jm) (λs=>s.1*1000000+s.2=T/\-1000000000000<=s.2/\s.2<=1000000000000/\-3000000000000000000<=s.1/\s.1<=2000000000000000000) (λs=>(-s.2).toNat) _ ?_ ((-m).toNat) (w,m) (Paa _) ⟨u,hr.1,hr.2,by omega,hw.2⟩;rintro⟨a,b⟩ ⟨k,l,o,p,t⟩;dsimp only at k l o p t;unfold Jm;dsimp only;by_cases h:b<0
  .left;exact⟨_,by rw[if_pos h,wid (by omega) (by omega),wid (by omega) (by omega)],by omega,by omega⟩
  .right;exact⟨_,by rw[if_neg h],by omega⟩
 obtain⟨⟨a,b⟩,q1,x,y,z,H,I⟩:=A;dsimp only at x y z H I;have B:∃c,ca Im (a,b)=some (.inl c)/\(c.1*1000000+c.2=T/\0<=c.2/\c.2<1000000/\-4000000000000000000<=c.1/\c.1<=4000000000000000000):=by
  refine bN (step:=Im) (λs=>s.1*1000000+s.2=T/\0<=s.2/\s.2<=1000000000000/\-4000000000000000000<=s.1/\s.1<=4000000000000000000) (λs=>s.2.toNat) _ ?_ (b.toNat) (a,b) (Paa _) ⟨x,y,z,by omega,by omega⟩;rintro⟨a,b⟩ ⟨k,l,o,p,t⟩;dsimp only at k l o p t;unfold Im;dsimp only;by_cases h:1000000<=b
  .left;exact⟨_,by rw[if_pos h,wid (by omega) (by omega),wid (by omega) (by omega)],by omega,by omega⟩
  simp_all[if_neg]
 obtain⟨⟨c,d⟩,C,D,v,E,F,G⟩:=B;dsimp only at D v E F G;unfold Br rsS;rw[q1,zaa];dsimp only;rw[C,zaa];dsimp only;rw[u];have e1:T / 1000000=c:=by omega
 have e2:T % 1000000=d:=by omega
 have j:ND (decide (T<0)) (dr (decide (T<0)) mode (T.natAbs / 1000000) (T.natAbs % 1000000) 1000000)=GL mode (T / 1000000) (T % 1000000) 1000000:=yA T 1000000 mode (by decide) (decide (T<0)) (.inr rfl) hm;rw[←j];by_cases hc:0<=c
 .rw[if_pos hc];have f:¬T<0:=by omega
  obtain⟨e,rfl⟩:=Saa hc;obtain⟨d',rfl⟩:=Saa v;have:=Wn (q:=e) (r:=d') (d:=1000000) false mode (by omega) (by omega) (by omega)
  grind
 .rw[if_neg hc];have f:T<0:=by omega
  rw[show decide (T<0)=true from by simp_all];by_cases hd:d=0
  .rw[if_pos hd];congr 1;have:T.natAbs % 1000000=0:=by omega
   rw[this];have hn:dr true mode (T.natAbs / 1000000) 0 1000000=T.natAbs / 1000000:=if_neg (by unfold bJ;omega);rw[hn];unfold ND
   grind
  .rw[if_neg hd,wid (n:=-c) (by omega) (by omega),wid (n:=-c-1) (by omega) (by omega),wid (n:=1000000-d) (by omega) (by omega)];obtain⟨e,g⟩:=Saa (show 0<=-c-1 by omega);obtain⟨d',i⟩:=Saa (show 0<=1000000-d by omega);rw[g,i];have:=Wn (q:=e) (r:=d') (d:=1000000) true mode (by omega) (by omega) (by omega)
   grind
theorem r8{q r e:Int}(he:e % 2=0) (h:(0<=q+e)↔(0<=q)):GL mode (q+e) r 1000000=GL mode q r 1000000+e:=by
 have:ZZ mode (q+e) r 1000000↔ZZ mode q r 1000000:=by unfold ZZ;omega
 grind[GL]
theorem cA(hm:0<=mode/\mode<=5) (hw:-2000000000000000000<=w/\w<=2000000000000000000) (hr:-1000000000000<=m/\m<=1000000000000) :
 rq w m mode=some (if 1000000000000000<rsS w m mode\/rsS w m mode < -1000000000000000 then(0,3)else(rsS w m mode,0)):=by
 have a:=gae m 1000000;have hm1:=Nad m (show(0:Int)<1000000 by omega);have hm2:-1000000<Taa m 1000000:=by
  grind
 unfold rq;rw[wid (n:=Naa m 1000000) (by omega) (by omega),wid (n:=w+Naa m 1000000) (by omega) (by omega)];have f:w*1000000+m=(w+Naa m 1000000)*1000000+Taa m 1000000:=by omega
 unfold rsS;rw[f];have hW:-3000000000000000000<=w+Naa m 1000000/\w+Naa m 1000000<=3000000000000000000:=by omega
 generalize w+Naa m 1000000=W at *;generalize Taa m 1000000=M at *;clear a f;have b:=S7 mode ((W*1000000+M) / 1000000) ((W*1000000+M) % 1000000) 1000000;by_cases hb:W < -2000000000000000\/2000000000000000<W
 .grind
 .rw[if_pos (by omega),zaa,if_neg (by simp_all)];have d:Taa W 2=if 0<=W then W % 2 else -(-W % 2):=by
   grind
  obtain⟨P,hP,hPe⟩:∃P,(if 1<W then some (aa .i64 ((Taa W 2)+2))else if W<(-1)then some (aa .i64 ((Taa W 2)-2))else some (Taa W 2))=some P/\((1<W/\P=W % 2+2)\/(W < -1/\P = -(-W % 2)-2)\/(-1<=W/\W<=1/\P=W)):=by
   rw[d];by_cases e:1<W
   .rw[if_pos e,if_pos (by omega),wid (by omega) (by omega)];simp_all
   .rw[if_neg e];by_cases h2:W < -1
    .rw[if_pos h2,if_neg (by omega),wid (by omega) (by omega)];simp_all
    .rw[if_neg h2];grind
  rw[hP,zaa];have hPb:-4<=P/\P<=4:=by omega
  rw[wid (n:=P*1000000) (by omega) (by omega),wid (n:=P*1000000+M) (by omega) (by omega),Rg];unfold vT;rw[if_neg (Haa.2 hm),if_neg (by decide),if_neg (by omega)];obtain⟨Z,g⟩:∃Z,P*1000000+M=Z:=⟨_,rfl⟩;rw[g];have h:ND (!(decide (Z<0)==decide ((1000000:Int)<0))) (dr (!(decide (Z<0)==decide ((1000000:Int)<0))) mode (Z.natAbs / 1000000) (Z.natAbs % 1000000) 1000000)=GL mode (Z / 1000000) (Z % 1000000) 1000000:=yA Z 1000000 mode (by decide) (!(decide (Z<0)==decide ((1000000:Int)<0))) (.inr (by simp)) hm;simp only[zaa];rw[show(1000000:Int).natAbs=1000000 from rfl,h,if_neg (by simp)];have c:GL mode ((W*1000000+M) / 1000000) ((W*1000000+M) % 1000000) 1000000=GL mode (Z / 1000000) (Z % 1000000) 1000000+(W-P):=by
   have e1:(W*1000000+M) / 1000000=Z / 1000000+(W-P):=by omega
   have e2:(W*1000000+M) % 1000000=Z % 1000000:=by omega
   rw[e1,e2];exact r8 (by omega) (by omega)
  have hrd2:=S7 mode (Z / 1000000) (Z % 1000000) 1000000;rw[c]at b⊢;generalize GL mode (Z / 1000000) (Z % 1000000) 1000000=R at *;rw[wid (n:=W-P) (by omega) (by omega),wid (n:=W-P+R) (by omega) (by omega),Int.add_comm (W-P) R]
  grind
structure RowsN (t:GTable):Prop where
 len:t.Rows.length<=150
 n:∀r∈t.Rows,-1000000000<=r.N/\r.N<=1000000000
variable {t:GTable}
theorem JL(ht:t.Value.a=4->RowsN t) (date c mode:Int):∃p,Hj t date c mode=some p/\Tp t date c mode=some p/\(p.2=0->-1000000000000000<=p.1/\p.1<=1000000000000000):=by
 unfold Hj Tp;rw[kW,Lw,zaa];by_cases hm:¬(0<=mode/\mode<=5)
 .simp_all
 have hm:=Sab.1 hm;rw[decide_eq_true hm,decide_eq_false (p:=¬(0<=mode/\mode<=5)) (λh=>h hm),if_neg (show¬(false=true)from λh=>nomatch h),if_neg (show¬(true=false)from λh=>nomatch h)];have e:∀{α:Type} (k:Bool->Option α),(Aaa (α:=Bool) (if t.ab.a=3/\t.ab.g=0 then some (!((t.Value.a==4)&&(t.Value.g==0)))else some true) k)=k (!decide ((t.ab.a=3/\t.ab.g=0)/\(t.Value.a=4/\t.Value.g=0))):=by
  grind
 rw[e,e];by_cases hk:¬((t.ab.a=3/\t.ab.g=0)/\(t.Value.a=4/\t.Value.g=0))
 .rw[decide_eq_false hk,if_pos (show(!false)=true from rfl),if_pos (show(!false)=true from rfl)];simp
 have hk:=Sab.1 hk;rw[decide_eq_true hk,if_neg (show¬((!true)=true)from λh=>nomatch h),if_neg (show¬((!true)=true)from λh=>nomatch h),Ee (by omega) (by omega),zaa];have ht:=ht hk.2.1;by_cases hc:1000000000000000<c\/c < -1000000000000000
 .have h2:(if¬c < -1000000000000000 then some (decide (1000000000000000<c))else some true)=some true:=by
   grind
  simp_all
 .rw[if_pos (by omega),zaa,if_neg (by simp_all),if_neg (by simp_all)];have g:=oF (s1:=Sf t date c) (s2:=Yo t date c) (λx y=>x=y/\∃i:Nat,x.2.2=(i:Int)/\i<=t.Rows.length/\-(1000000000000000*(i:Int))<=x.1/\x.1<=1000000000000000*(i:Int)/\-(1000000*(i:Int))<=x.2.1/\x.2.1<=1000000*(i:Int)) (λx=>(t.Rows.length-x.2.2).toNat) (λx y=>x=y/\-150000000000000000<=x.1/\x.1<=150000000000000000/\-150000000<=x.2/\x.2<=150000000) (λx y=>x=(0,3)/\y=(0,3)) (by
   rintro⟨a,b,j⟩ y ⟨rfl,i,l,o,q,s,u,z⟩;dsimp only at l o q s u z;subst l;have hl:=ht.len;unfold Sf Yo;dsimp only;by_cases hi:i<t.Rows.length
   .have hN:=ht.n _ (Iaa hi);rw[if_pos (by omega),if_pos (by omega),ya hi];simp only[zaa,We,Kq];generalize t.Rows[i]=r at hN⊢;by_cases f:jy r.w date=true/\¬(min r.Hi c<=max r.Lo 0)
    .rw[if_pos f.1,if_pos f.2];have q1:decide (min r.Hi c<=max r.Lo 0)=false:=by simp_all
     rw[q1,f.1];simp only[zaa,Rab,Eaa,if_false];rw[wid (by omega) (by omega)];obtain⟨len,d⟩:=Saa (show 0<=min r.Hi c-max r.Lo 0 by omega);rw[d,dw (by omega) hN,cC (by omega) (by omega) hN];have hb:=qJ (neg:=decide (r.N<0)) (len:=len) (n:=r.N.natAbs);generalize gO (decide (r.N<0)) (rJ len r.N.natAbs)=v at hb⊢;obtain⟨B,C,D⟩:=v;simp only[zaa]at hb⊢;cases D
     .simp
     .left;rw[wid (n:=a+B) (by omega) (by omega),wid (n:=b+C) (by omega) (by omega),sa (by omega)];refine⟨_,_,rfl,rfl,⟨rfl,i+1,rfl,by omega,?_⟩,?_⟩
      all_goals grind
    .have q1:(if jy r.w date=true then some (decide (min r.Hi c<=max r.Lo 0))else some true)=some true:=by
      simp_all
     have A:(if¬(min r.Hi c<=max r.Lo 0)then some (!jy r.w date)else some true)=some true:=by
      grind
     rw[q1,A];simp only[zaa,if_true];left;rw[sa (by omega)];refine⟨_,_,rfl,rfl,⟨rfl,i+1,rfl,by omega,?_⟩,?_⟩
     all_goals grind
   grind) t.Rows.length (0,0,0) (0,0,0) (by simp) ⟨rfl,0,rfl,by omega,by simp⟩
  rcases g with⟨x,y,g1,g2,rfl,g3⟩|⟨x,y,g1,g2,rfl,rfl⟩
  .rw[g1,g2];obtain⟨w,m⟩:=x;dsimp only at g3;simp only[zaa];rw[cA hm (by omega) (by omega),xI hm (by omega) (by omega)];simp only[zaa];rw[Ee (by omega) (by omega),zaa]
   grind
  simp_all
theorem PS(ht:t.Value.a=4->RowsN t) (date c mode:Int):∃p,Hj t date c mode=some p/\(p.2=0->-1000000000000000<=p.1/\p.1<=1000000000000000):=by
 unfold Hj;rw[kW];by_cases hm:¬(0<=mode/\mode<=5)
 .simp_all
 have hm:=Sab.1 hm;rw[decide_eq_false (p:=¬(0<=mode/\mode<=5)) (λh=>h hm),if_neg (show¬(false=true)from λh=>nomatch h)];have f:∀{α:Type} (k:Bool->Option α),(Aaa (α:=Bool) (if t.ab.a=3/\t.ab.g=0 then some (!((t.Value.a==4)&&(t.Value.g==0)))else some true) k)=k (!decide ((t.ab.a=3/\t.ab.g=0)/\(t.Value.a=4/\t.Value.g=0))):=by
  grind
 rw[f];by_cases hk:¬((t.ab.a=3/\t.ab.g=0)/\(t.Value.a=4/\t.Value.g=0))
 .rw[decide_eq_false hk,if_pos (show(!false)=true from rfl)];simp
 have hk:=Sab.1 hk;rw[decide_eq_true hk,if_neg (show¬((!true)=true)from λh=>nomatch h)];have ht:=ht hk.2.1;by_cases hc:1000000000000000<c\/c < -1000000000000000
 .have h2:(if¬c < -1000000000000000 then some (decide (1000000000000000<c))else some true)=some true:=by
   grind
  simp_all
 .rw[if_pos (by omega),zaa,if_neg (by simp_all)];have e:=oF (s1:=Sf t date c) (s2:=Sf t date c) (λx y=>x=y/\∃i:Nat,x.2.2=(i:Int)/\i<=t.Rows.length/\-(1000000000000000*(i:Int))<=x.1/\x.1<=1000000000000000*(i:Int)/\-(1000000*(i:Int))<=x.2.1/\x.2.1<=1000000*(i:Int)) (λx=>(t.Rows.length-x.2.2).toNat) (λx y=>x=y/\-150000000000000000<=x.1/\x.1<=150000000000000000/\-150000000<=x.2/\x.2<=150000000) (λx y=>x=(0,3)/\y=(0,3)) (by
   rintro⟨a,b,j⟩ y ⟨rfl,i,g,o,q,s,u,z⟩;dsimp only at g o q s u z;subst g;have hl:=ht.len;unfold Sf;dsimp only;by_cases hi:i<t.Rows.length
   .have hN:=ht.n _ (Iaa hi);rw[if_pos (by omega),ya hi];simp only[zaa,We];generalize t.Rows[i]=r at hN⊢;by_cases l:jy r.w date=true/\¬(min r.Hi c<=max r.Lo 0)
    .rw[if_pos l.1];have q1:decide (min r.Hi c<=max r.Lo 0)=false:=by simp_all
     rw[q1];simp only[zaa,Eaa,if_false];rw[wid (by omega) (by omega)];obtain⟨len,d⟩:=Saa (show 0<=min r.Hi c-max r.Lo 0 by omega);rw[d,dw (by omega) hN];have hb:=qJ (neg:=decide (r.N<0)) (len:=len) (n:=r.N.natAbs);generalize gO (decide (r.N<0)) (rJ len r.N.natAbs)=v at hb⊢;obtain⟨A,B,C⟩:=v;simp only[zaa]at hb⊢;cases C
     .simp
     .left;rw[wid (n:=a+A) (by omega) (by omega),wid (n:=b+B) (by omega) (by omega),sa (by omega)];refine⟨_,_,rfl,rfl,⟨rfl,i+1,rfl,by omega,?_⟩,?_⟩
      all_goals grind
    .have q1:(if jy r.w date=true then some (decide (min r.Hi c<=max r.Lo 0))else some true)=some true:=by
      simp_all
     have q2:(if¬(min r.Hi c<=max r.Lo 0)then some (!jy r.w date)else some true)=some true:=by
      grind
     rw[q1];simp only[zaa,if_true];left;rw[sa (by omega)];refine⟨_,_,rfl,rfl,⟨rfl,i+1,rfl,by omega,?_⟩,?_⟩
     all_goals grind
   grind) t.Rows.length (0,0,0) (0,0,0) (by simp) ⟨rfl,0,rfl,by omega,by simp⟩
  rcases e with⟨x,y,g1,g2,rfl,g3⟩|⟨x,y,g1,g2,rfl,rfl⟩
  .rw[g1];obtain⟨w,m⟩:=x;dsimp only at g3;simp only[zaa];rw[cA hm (by omega) (by omega)];simp only[zaa];by_cases h:1000000000000000<rsS w m mode\/rsS w m mode < -1000000000000000
   .simp_all
   grind
  simp_all
def Ga(v:GValue):Prop:=
 (v.a=1/\v.g=0/\0<=v.N/\v.N<=1)\/(v.a=2/\v.g=0/\-1000000000000<=v.N/\v.N<=1000000000000)\/(v.a=3/\v.g=0/\-1000000000000000<=v.N/\v.N<=1000000000000000)\/
 (v.a=4/\v.g=0/\-1000000000<=v.N/\v.N<=1000000000)\/(v.a=5/\v.g=0/\0<=v.N/\v.N<=109572)\/(v.a=6/\0<=v.g/\v.g<8/\0<=v.N/\v.N<16)
instance (v:GValue):Decidable (Ga v):=by unfold Ga;infer_instance
def Yw(v:GValue):Bool:=decide (Ga v)
theorem ZM{a b:Prop} [Decidable a] [Decidable b]:(Aaa (α:=Bool) (if a then some (decide b)else some false) λj=>some j)=some (decide (a/\b)):=by
 grind
theorem iteE{a:Prop} [Decidable a] {b:Bool}:(if¬a then some b else some false)=some (!decide a&&b):=by
 grind
theorem eb(v:GValue):Fb v=some (Yw v):=by
 obtain⟨K,E,N⟩:=v;unfold Fb Yw Ga;simp only[ZM,iteE,zaa]
 grind[decide]
theorem sd(v:GValue):wb v=some (Yw v):=by
 obtain⟨K,E,N⟩:=v;unfold wb Oq Yw Ga
 grind[decide]
theorem Ga.range(h:Ga v):-1000000000000000<=v.N/\v.N<=1000000000000000/\1<=v.a/\v.a<=6:=by unfold Ga at h;omega
theorem allPl{l:List GValue}(hl:l.length<=1048576):Gf l=some (l.all Yw)/\ca (Km l) 0=some (if l.all Yw=true then .inl ()else .inr (⟨0,0,0⟩,8)):=by
 have e1:ca (nc l) 0=some (Eb () (ff (λi=>if(l[i]?.any λv=>!Yw v)=true then some false else none) l.length)):=
  xb (λi=>(i:Int)) _ l.length () (λi hi _=>by
   unfold nc;rw[if_pos (by omega),ya hi,Baa hi]
   grind[aD,eb,sa]) (λ_=>by grind[nc])
 have e2:ca (Km l) 0=some (Eb () (ff (λi=>if(l[i]?.any λv=>!Yw v)=true then some ((⟨0,0,0⟩,8):GValue×Int)else none) l.length)):=
  xb (λi=>(i:Int)) _ l.length () (λi hi _=>by
   unfold Km;rw[if_pos (by omega),ya hi,Baa hi]
   grind[aD,sd,sa]) (λ_=>by grind[Km])
 unfold Gf;rw[e1,e2];by_cases h:l.all Yw=true
 .have hn:∀i,i<l.length->(l[i]?.any λv=>!Yw v)=false:=by
   simp_all
  rw[ab.2 (λi hi=>by simp_all),ab.2 (λi hi=>by simp_all),h];exact⟨rfl,rfl⟩
 .have hb:l.all Yw=false:=by simp_all
  obtain⟨x,hx,hx2⟩:∃x∈l,Yw x=false:=by
   simp_all
  obtain⟨k,hk,rfl⟩:=Maa hx;have ne:∀{ρ:Type} (v:ρ),ff (λi=>if(l[i]?.any λv=>!Yw v)=true then some v else none) l.length=some v:=by
   intro ρ v
   cases hf:ff (λi=>if(l[i]?.any λv=>!Yw v)=true then some v else none) l.length with
   |none=>
    grind[ab]
   |some w=>
    obtain⟨i,_,h2,_⟩:=Pa.1 hf
    simp_all
  rw[ne,ne,hb];exact⟨rfl,rfl⟩
def U1(n:GNode):Bool:=
 decide (n.N=0\/Ec n.Op=true)&&decide ((14<=n.Op/\n.Op<=16->0<=n.N/\n.N<=5)/\(n.Op=34->0<=n.N/\n.N % 8<=5)/\(n.Op=6->0<=n.N))
theorem sw_s:(Aaa (α:=Bool) (if n.Op=14 then some true else if n.Op=15 then some true else some (n.Op==16)) λh=>
 if h=true then Aaa (α:=Bool) (if 0<=n.N then some (decide (n.N<=5))else some false) λe=>some e
 else if n.Op=34 then Aaa (α:=Bool) (if 0<=n.N then some (decide ((Taa n.N 8)<=5))else some false) λf=>some f
 else if n.Op=6 then some (decide (0<=n.N))else some true)=some (decide ((14<=n.Op/\n.Op<=16->0<=n.N/\n.N<=5)/\(n.Op=34->0<=n.N/\n.N % 8<=5)/\(n.Op=6->0<=n.N))):=by
 obtain⟨op,N⟩:=n;dsimp only;simp only[ZM];by_cases b:op=14
 .simp_all
 by_cases c:op=15
 .simp_all
 by_cases d:op=16
 .simp_all
 by_cases a:op=34
 .subst a;simp
  grind
 by_cases g:op=6
 .simp_all
 simp[b,c,d,a,g];omega
theorem vX(h:1<=op/\op<=39):0<=ub op:=by
 grind[ub]
theorem wG(n:GNode):Un n=some (decide (1<=n.Op/\n.Op<=39)&&U1 n):=by
 unfold Un;rw[sn,zaa,sw_s];by_cases h:1<=n.Op/\n.Op<=39
 .have:=vX h;rw[if_pos (by omega),Ia h,decide_eq_true h,Jab];unfold U1;by_cases hN:n.N=0
  .grind
  .cases hu:Ec n.Op<;>simp[hN]
 grind[wC]
theorem KK(n:GNode) (k:Nat):Ut n k=some (decide (1<=n.Op/\n.Op<=39)&&(decide (ub n.Op=k)&&U1 n)):=by
 unfold Ut;rw[qv,zaa,sw_s];by_cases h:1<=n.Op/\n.Op<=39
 .have hm:Dr n.Op=some (Ec n.Op):=by
   rcases Mz h with h|h|h|h|h|h|h|h|h|h|h|h|h|h|h|h|h|h|h|h|h|h|h|h|h|h|h|h|h|h|h|h|h|h|h|h|h|h|h<;>rw[h]<;>simp[Dr,Ec]
  rw[hm,decide_eq_true h,Jab];unfold U1;by_cases hk:ub n.Op=k
  .rw[if_pos hk,decide_eq_true hk,Jab];by_cases hN:n.N=0
   .grind
   .cases hu:Ec n.Op<;>simp[hN]
  simp_all
 simp_all[wC]
def ru(n:GNode) (env:GEnv):Bool:=
 if n.Op=7 then decide (0<=n.N/\n.N<(env.u.length:Int))else
 if n.Op=8 then decide (0<=n.N/\n.N<(env.d.length:Int))&&!(((env.d[n.N.toNat]?).map (·.a)).getD 0==0)else
 if n.Op=33 then decide (0<=n.N/\n.N<(env.Tables.length:Int))else
 if n.Op=34 then decide (aa .i64 (Naa n.N 8)<(env.Tables.length:Int))else
 if 36<=n.Op/\n.Op<=39 then decide (0<=n.N/\n.N<(env.al.length:Int))else true
theorem OY:(Aaa (α:=Bool) (if op=36 then some true else if op=37 then some true else if op=38 then some true else some (op==39)) k)=k (decide (36<=op/\op<=39)):=by
 by_cases a:op=36
 .simp_all
 by_cases h2:op=37
 .simp_all
 by_cases b:op=38
 .simp_all
 by_cases h4:op=39
 .simp_all
 rw[if_neg a,if_neg h2,if_neg b,zaa]
 grind[decide_eq_false_iff_not]
theorem Sy(n:GNode) (env:GEnv):Dv n env=some (ru n env):=by
 unfold Dv ru;simp only[OY,ZM];split
 .rfl
 split
 .by_cases a:0<=n.N
  .by_cases b:n.N<(env.d.length:Int)
   .rw[if_pos a,if_pos b,bh a b,Baa (by omega)];grind
   grind
  grind
 grind
theorem mM(n:GNode) (env:GEnv):Tv n env=some (ru n env):=by
 unfold Tv ru;simp only[OY,ZM];split
 .rfl
 split
 .by_cases a:0<=n.N
  .by_cases b:n.N<(env.d.length:Int)
   .rw[if_pos a,if_pos b,bh a b,Baa (by omega)];grind
   grind
  grind
 grind
structure EnvOk (env:GEnv):Prop where
 tabs:∀t∈env.Tables,t.Rows.length<=150/\(t.Value.a=4->RowsN t)
 mem:env.r.length<=1048576
noncomputable def Cb(n:GNode) (args:List GValue) (env:GEnv):Option (GValue×Int):=
 (ea n args env).bind λa=>if a=false then some (⟨0,0,0⟩,8)else
 (pa n args env).bind λx=>if¬x.2=0 then some (⟨0,0,0⟩,x.2)else
 if Yw x.1=false then some (⟨0,0,0⟩,3)else some (x.1,0)
noncomputable def db(n:GNode):List GValue->GEnv->Option (GValue×Int)
 |[],env=>if 36<=n.Op/\n.Op<=39 then Ko n env else xf n env
 |[a],env=>Ld n a env
 |[a,b],_=>pb n a b
 |[a,b,c],_=>if a.a=1/\b.a=c.a/\b.g=c.g then(if a.N=1 then some (b,0)else some (c,0))else some (⟨0,0,0⟩,8)
 |_,_=>none
def Ql(e r:Option (GValue×Int)):Prop:=∃p,e=some p/\r=some p/\(p.2=0->Ga p.1)
theorem fx{c:Int}(h:c≠0):Ql (some (⟨0,0,0⟩,c)) (some (⟨0,0,0⟩,c)):=⟨_,rfl,rfl,λh2=>absurd h2 h⟩
theorem oi{x:Option (GValue×Int)}:(x.bind λy=>some (y.1,y.2))=x:=by cases x<;>rfl
theorem YS{env:GEnv}(ha:args.length<=3) (h:1<=n.Op/\n.Op<=39->ub n.Op=args.length->U1 n=true->ru n env=true->(∀a∈args,Ga a)->Ql (Cb n args env) (db n args env)):Ql (Ff n args env) (Wp n args env):=by
 unfold Ff Wp;obtain⟨a1,a2⟩:=allPl (l:=args) (by omega);rw[wG,sn,Sy,KK,mM,a1,a2];simp only[zaa];by_cases m:1<=n.Op/\n.Op<=39
 case neg=>grind[fx]
 rw[decide_eq_true m];simp only[Jab];by_cases h2:U1 n=true
 case neg=>rw[lac.2 h2];simp_all[fx]
 rw[h2];simp only[Bool.and_true,if_true];by_cases o:ub n.Op=args.length
 case neg=>
  grind[fx]
 have:((args.length:Int) !=ub n.Op)=false:=by grind
 rw[this,decide_eq_true o];simp only[zaa,Eaa,if_false,Raa];by_cases f:ru n env=true
 case neg=>rw[lac.2 f];grind[fx]
 rw[f];simp only[Raa,if_false];by_cases g:args.all Yw=true
 case neg=>rw[lac.2 g];grind[fx]
 rw[g];simp only[if_true];have p:∀a∈args,Ga a:=λa ha=>of_decide_eq_true (fab.1 g a ha);have hc:=h m o h2 f p;have e1:(Aaa (α:=Bool) ((ea n args env).bind λj=>some (!j)) λi=>if i=true then some ((⟨0,0,0⟩:GValue),(8:Int))else(pa n args env).bind λe=>if¬e.2=0 then some (⟨0,0,0⟩,e.2)else(Fb e.1).bind λk=>if k=false then some (⟨0,0,0⟩,3)else some (e.1,0))=Cb n args env:=by
  unfold Cb
  cases ea n args env with
  |none=>rfl
  |some b=>
   grind[eb]
 rw[e1];rcases args with _|⟨a,_|⟨b,_|⟨c,_|⟨d,l⟩⟩⟩⟩
 .simp only[sab,Cad,if_true]
  grind[db,oi]
 all_goals grind[db,Yc,oi,gF,GO]
def Xo(v:GValue):GValue×Int:=if Yw v=true then(v,0)else(⟨0,0,0⟩,3)
theorem qb(k n:Int):xc k n=some (Xo ⟨k,0,n⟩):=by
 grind[xc,Xo,sd]
theorem Gn(k n e:Int):qj k n e=some (if e=0 then Xo ⟨k,0,n⟩else(⟨0,0,0⟩,e)):=by
 grind[qj,qb]
theorem gW(v:GValue):(Xo v).2=0->Ga (Xo v).1:=by
 grind[Xo,Yw]
theorem AX(v:GValue):Ql (some (Xo v)) (some (Xo v)):=⟨_,rfl,rfl,gW v⟩
theorem cQ{env:GEnv}(h:ea n args env=some true) {e:Int}(hc:pa n args env=some (v,e)):Cb n args env=some (if e=0 then Xo v else(⟨0,0,0⟩,e)):=by
 grind[Cb,Xo]
theorem aQ{env:GEnv}(h:ea n args env=some false):Cb n args env=some (⟨0,0,0⟩,8):=by
 grind[Cb]
theorem Dd{env:GEnv}(h:ea n args env=some true) {e:Int}(hc:pa n args env=some (v,e)) (hr:db n args env=some (if e=0 then Xo v else(⟨0,0,0⟩,e))):Ql (Cb n args env) (db n args env):=by
 rw[cQ h hc,hr];by_cases h0:e=0
 all_goals simp_all[AX,fx]
theorem Vl{env:GEnv}(h:ea n args env=some false) (hr:db n args env=some (⟨0,0,0⟩,8)):Ql (Cb n args env) (db n args env):=by
 grind[aQ,fx]
theorem vA(h:Ga v):Xo v=(v,0):=if_pos (decide_eq_true h)
theorem rB{env:GEnv}(h:1<=op/\op<=5):Ql (Cb ⟨op,N⟩ [] env) (db ⟨op,N⟩ [] env):=by
 refine Dd (v:=⟨op,0,N⟩) (e:=0) ?_ ?_ ?_
 .have:op=1\/op=2\/op=3\/op=4\/op=5:=by omega
  rcases this with rfl|rfl|rfl|rfl|rfl<;>simp[ea]
 .have:op=1\/op=2\/op=3\/op=4\/op=5:=by omega
  rcases this with rfl|rfl|rfl|rfl|rfl<;>simp[pa]
 .unfold db;dsimp only;rw[if_neg (by omega),if_pos rfl];unfold xf;dsimp only;rw[if_neg (by omega),if_neg (by omega),if_neg (by omega),if_neg (by omega),if_neg (by omega),qb];rfl
theorem core_6{env:GEnv}:Ql (Cb ⟨6,N⟩ [] env) (db ⟨6,N⟩ [] env):=by
 refine Dd (v:=⟨6,aa .i64 (Naa N 16),Taa N 16⟩) (e:=0) (by simp[ea]) (by simp[pa]) ?_
 grind[db,xf,Xo,sd]
theorem core_7{env:GEnv}(hf:ru ⟨7,N⟩ env=true):Ql (Cb ⟨7,N⟩ [] env) (db ⟨7,N⟩ [] env):=by
 simp only[ru,if_true,decide_eq_true_eq]at hf
 grind[ea,pa,db,xf,Xo,bh,Dd,eb,sd,Vl]
theorem core_8{env:GEnv}(hf:ru ⟨8,N⟩ env=true):Ql (Cb ⟨8,N⟩ [] env) (db ⟨8,N⟩ [] env):=by
 simp only[ru,Jaa,if_false,if_true,Laa,decide_eq_true_eq]at hf
 grind[ea,pa,db,xf,Xo,bh,Dd,eb,sd,Vl]
theorem core_9{env:GEnv}:Ql (Cb ⟨9,N⟩ [] env) (db ⟨9,N⟩ [] env):=
 Dd (v:=⟨5,0,env.ae⟩) (e:=0) (by simp[ea]) (by simp[pa]) (by simp[db,xf,qb])
theorem core_35{env:GEnv}:Ql (Cb ⟨35,N⟩ [] env) (db ⟨35,N⟩ [] env):=
 Dd (v:=⟨2,0,(env.r.length:Int)⟩) (e:=0) (by simp[ea]) (by simp[pa]) (by simp[db,xf,qb])
theorem Vb(k:Int):Ni k=some (decide (2<=k/\k<=4)):=by
 unfold Ni;by_cases h2:k=2
 .simp_all
 by_cases a:k=3
 .simp_all
 rw[if_pos h2,if_pos a,zaa]
 grind[decide_eq_false]
theorem pj(k:Int):En k=some (decide (2<=k/\k<=4)):=by
 unfold En;by_cases h2:k=2
 .simp_all
 by_cases a:k=3
 .simp_all
 rw[if_pos h2,if_pos a,zaa]
 grind[decide_eq_false]
theorem Ge(b:Bool):ai b=some ⟨1,0,if b=true then 1 else 0⟩:=by cases b<;>rfl
theorem Nl(b:Bool):wh b=some (⟨1,0,if b=true then 1 else 0⟩,0):=by cases b<;>rfl
theorem Pu(b:Bool):Xo ⟨1,0,if b=true then 1 else 0⟩=(⟨1,0,if b=true then 1 else 0⟩,0):=by cases b<;>exact vA (by decide)
theorem core_10{env:GEnv}(ha:Ga a):Ql (Cb ⟨10,N⟩ [a] env) (db ⟨10,N⟩ [a] env):=by
 have hr:=ha.range;by_cases hn:2<=a.a/\a.a<=4
 .refine Dd (v:=⟨a.a,0,-a.N⟩) (e:=0) (by grind[ea,Ka,Yc,Vb]) (by grind[pa,Xi,Yc,wid]) ?_;simp[db,Ld,pj,hn,wid (n:=-a.N) (by omega) (by omega),qb]
 .have hd:decide (2<=a.a/\a.a<=4)=false:=decide_eq_false hn;refine Vl (by simp only[ea,Jaa,if_false,zaa,Oaa,Eaa,Yc,Ka,Vb,hd,bab,sab,if_true,Qab,Gad]) (by simp_all[db,Ld,pj])
theorem core_25{env:GEnv}(ha:Ga a):Ql (Cb ⟨25,N⟩ [a] env) (db ⟨25,N⟩ [a] env):=by
 by_cases hn:a.a=1
 .refine Dd (v:=⟨1,0,if(a.N==0)=true then 1 else 0⟩) (e:=0) (by grind[ea,Ka,Yc]) (by simp only[pa,Jaa,if_false,zaa,Oaa,Eaa,Yc,Xi,Ge,bab,sab,if_true,Qab,Gad]) ?_;rw[Pu]
  simp_all[db,Ld,Nl]
 grind[ea,Ka,db,Ld,Vl,Yc]
theorem GM{env:GEnv}(b:op=31\/op=32) (ha:Ga a):Ql (Cb ⟨op,N⟩ [a] env) (db ⟨op,N⟩ [a] env):=by
 by_cases hn:a.a=5
 .have f:0<=a.N/\a.N<=109572:=by unfold Ga at ha;omega
  obtain⟨y,m,d,c,hz⟩:∃y m d,Fl a.N=some (y,m,d)/\Pp a.N=some (y,m,d):=by
   obtain⟨n,m,k,c⟩:=uC f.1 f.2;exact⟨_,_,_,qn c,HD c⟩
  rcases b with rfl|rfl
  .refine Dd (v:=⟨2,0,y⟩) (e:=0) (by grind[ea,Ka,Yc]) (by grind[pa,Xi,Yc]) ?_
   simp_all[db,Ld,qb]
  .refine Dd (v:=⟨2,0,m⟩) (e:=0) (by grind[ea,Ka,Yc]) (by grind[pa,Xi,Yc]) ?_
   simp_all[db,Ld,qb]
 .rcases b with rfl|rfl
  all_goals grind[ea,Ka,db,Ld,Vl,Yc]
theorem Dt(v:GValue) (t:GType):Fq v t=some (Yw v&&(decide (v.a=t.a)&&decide (v.g=t.g))):=by
 grind[Fq,eb]
theorem uR(v:GValue) (t:GType):Sz v t=some (Yw v&&(decide (v.a=t.a)&&decide (v.g=t.g))):=by
 grind[Sz,sd]
theorem core_33{env:GEnv}(he:EnvOk env) (hf:ru ⟨33,N⟩ env=true) (ha:Ga a):Ql (Cb ⟨33,N⟩ [a] env) (db ⟨33,N⟩ [a] env):=by
 simp only[ru,Jaa,if_false,if_true,decide_eq_true_eq]at hf;have hm:env.Tables[N.toNat]'(by omega)∈env.Tables:=Iaa _;have hi:idx env.Tables N=some (env.Tables[N.toNat]'(by omega)):=bh hf.1 hf.2;generalize env.Tables[N.toNat]'(by omega)=t at hi hm;have ht:=he.tabs t hm;have e:Yw a=true:=decide_eq_true ha;have c:ea ⟨33,N⟩ [a] env=some (decide (a.a=t.ab.a/\a.g=t.ab.g/\1<=t.Value.a/\t.Value.a<=6)):=by
  simp only[ea,Jaa,if_false,if_true,hi,Yc,zaa,Dt,e,Jab]
  grind
 have hre:db ⟨33,N⟩ [a] env=Pq t env.ae a:=by
  grind[db,Ld,oi]
 have b:Pq t env.ae a=if a.a=t.ab.a/\a.g=t.ab.g/\1<=t.Value.a/\t.Value.a<=6 then(Nq t env.ae a.N).bind λg=>if g.2=false then some (⟨0,0,0⟩,6)else(idx t.Rows g.1).bind λh=>some (Xo ⟨t.Value.a,t.Value.g,h.N⟩)else some (⟨0,0,0⟩,8):=by
  grind[Pq,Xo,sd]
 by_cases hc:a.a=t.ab.a/\a.g=t.ab.g/\1<=t.Value.a/\t.Value.a<=6
 .rw[decide_eq_true hc]at c;rw[if_pos hc,IK (by omega),zaa]at b;have d:pa ⟨33,N⟩ [a] env=if(Hz t env.ae a.N).2=false then some (⟨0,0,0⟩,6)else(idx t.Rows (Hz t env.ae a.N).1).bind λf=>some (⟨t.Value.a,t.Value.g,f.N⟩,0):=by
   grind[pa,Yc,qC]
  by_cases hl:(Hz t env.ae a.N).2=true
  .obtain⟨i,h1,h2⟩:=VQ hl
   grind[ya,Dd]
  .rw[lac.2 hl]at b d
   grind[Dd]
 .rw[decide_eq_false hc]at c;rw[if_neg hc]at b
  grind[Vl]
theorem core_34{env:GEnv}(he:EnvOk env) (hN:Kb ⟨34,N⟩) (hw:U1 ⟨34,N⟩=true) (hf:ru ⟨34,N⟩ env=true) (ha:Ga a):Ql (Cb ⟨34,N⟩ [a] env) (db ⟨34,N⟩ [a] env):=by
 simp only[ru,Jaa,if_false,if_true,decide_eq_true_eq]at hf;have g:0<=N/\N % 8<=5:=by
  simp_all[U1]
 obtain⟨d,e⟩:=hN;dsimp only at d e;have hq:aa .i64 (Naa N 8)=N / 8:=by grind[wid]
 have hr:Taa N 8=N % 8:=gS g.1;rw[hq]at hf;have hm:env.Tables[(N / 8).toNat]'(by omega)∈env.Tables:=Iaa _;have hi:idx env.Tables (N / 8)=some (env.Tables[(N / 8).toNat]'(by omega)):=bh (by omega) hf;generalize env.Tables[(N / 8).toNat]'(by omega)=t at hi hm;have ht:=he.tabs t hm;obtain⟨p,b1,f,b3⟩:=JL ht.2 env.ae a.N (N % 8);have b:ea ⟨34,N⟩ [a] env=some (decide (a.a=3/\t.ab.a=3/\t.ab.g=0/\t.Value.a=4/\t.Value.g=0)):=by
  simp only[ea,Jaa,if_false,if_true,hq,hi,Yc,zaa]
  grind
 have c:db ⟨34,N⟩ [a] env=if a.a=3/\t.ab.a=3/\t.ab.g=0/\t.Value.a=4/\t.Value.g=0 then some (if p.2=0 then Xo ⟨3,0,p.1⟩else(⟨0,0,0⟩,p.2))else some (⟨0,0,0⟩,8):=by
  simp only[db,Ld,Jaa,if_false,zaa,Oaa,Eaa,hq,hr,hi,f,Gn]
  grind
 by_cases hc:a.a=3/\t.ab.a=3/\t.ab.g=0/\t.Value.a=4/\t.Value.g=0
 .rw[decide_eq_true hc]at b;rw[if_pos hc]at c
  grind[pa,Dd,Yc]
 .rw[decide_eq_false hc]at b;rw[if_neg hc]at c
  grind[Vl]
theorem core_26{c:GValue}{env:GEnv}(ha:Ga a) (hb:Ga b) (hc:Ga c):Ql (Cb ⟨26,N⟩ [a,b,c] env) (db ⟨26,N⟩ [a,b,c] env):=by
 by_cases h:a.a=1/\b.a=c.a/\b.g=c.g
 .have d:ea ⟨26,N⟩ [a,b,c] env=some true:=by
   grind[ea,Bd,Yc,gF,GO]
  grind[pa,db,Dd,Yc,gF,GO,vA]
 .have d:ea ⟨26,N⟩ [a,b,c] env=some (decide (a.a=1/\b.a=c.a/\b.g=c.g)):=by
   grind[ea,Bd,Yc,gF,GO]
  rw[decide_eq_false h]at d;exact Vl d (by simp_all[db])
def Tx(e:Option (GValue×Int)):Prop:=∃p,e=some p/\(p.2=0->Ga p.1)
theorem Pl{env:GEnv}(h:ea n args env=some true) {e:Int}(hc:pa n args env=some (v,e)):Tx (Cb n args env):=by
 rw[cQ h hc];by_cases a:e=0
 .rw[if_pos a];exact⟨_,rfl,gW v⟩
 .rw[if_neg a];exact⟨_,rfl,λh2=>absurd h2 a⟩
theorem tw{env:GEnv}(h:ea n args env=some false):Tx (Cb n args env):=by
 rw[aQ h];exact⟨_,rfl,λh2=>absurd h2 (by decide)⟩
theorem tcore_6{env:GEnv}:Tx (Cb ⟨6,N⟩ [] env):=by
 exact Pl (v:=⟨6,aa .i64 (Naa N 16),Taa N 16⟩) (e:=0) (by simp[ea]) (by simp[pa])
theorem tcore_7{env:GEnv}(hf:ru ⟨7,N⟩ env=true):Tx (Cb ⟨7,N⟩ [] env):=by
 simp only[ru,if_true,decide_eq_true_eq]at hf;have hi:idx env.u N=some (env.u[N.toNat]'(by omega)):=bh hf.1 hf.2;generalize env.u[N.toNat]'(by omega)=v at hi;by_cases hv:Yw v=true
 .exact Pl (v:=v) (e:=0) (by grind[ea,eb]) (by grind[pa])
 grind[ea,tw,eb]
theorem tcore_8{env:GEnv}(hf:ru ⟨8,N⟩ env=true):Tx (Cb ⟨8,N⟩ [] env):=by
 simp only[ru,Jaa,if_false,if_true,Laa,decide_eq_true_eq]at hf;have hi:idx env.d N=some (env.d[N.toNat]'(by omega)):=bh hf.1.1 hf.1.2;generalize env.d[N.toNat]'(by omega)=v at hi;by_cases hv:Yw v=true
 .exact Pl (v:=v) (e:=0) (by grind[ea,eb]) (by grind[pa])
 grind[ea,tw,eb]
theorem tcore_9{env:GEnv}:Tx (Cb ⟨9,N⟩ [] env):=
 Pl (v:=⟨5,0,env.ae⟩) (e:=0) (by simp[ea]) (by simp[pa])
theorem oaa{env:GEnv}:Tx (Cb ⟨35,N⟩ [] env):=
 Pl (v:=⟨2,0,(env.r.length:Int)⟩) (e:=0) (by simp[ea]) (by simp[pa])
theorem haa{env:GEnv}(ha:Ga a):Tx (Cb ⟨10,N⟩ [a] env):=by
 have hr:=ha.range;by_cases hn:2<=a.a/\a.a<=4
 .exact Pl (v:=⟨a.a,0,-a.N⟩) (e:=0) (by grind[ea,Ka,Yc,Vb]) (by grind[pa,Xi,Yc,wid])
 .have hd:decide (2<=a.a/\a.a<=4)=false:=decide_eq_false hn;exact tw (by simp only[ea,Jaa,if_false,zaa,Oaa,Eaa,Yc,Ka,Vb,hd,bab,sab,if_true,Qab,Gad])
theorem iaa{env:GEnv}(ha:Ga a):Tx (Cb ⟨25,N⟩ [a] env):=by
 by_cases hn:a.a=1
 .exact Pl (v:=⟨1,0,if(a.N==0)=true then 1 else 0⟩) (e:=0) (by grind[ea,Ka,Yc]) (by simp only[pa,Jaa,if_false,zaa,Oaa,Eaa,Yc,Xi,Ge,bab,sab,if_true,Qab,Gad])
 grind[ea,Ka,tw,Yc]
theorem tL{env:GEnv}(b:op=31\/op=32) (ha:Ga a):Tx (Cb ⟨op,N⟩ [a] env):=by
 by_cases hn:a.a=5
 .have c:0<=a.N/\a.N<=109572:=by unfold Ga at ha;omega
  obtain⟨y,m,d,f⟩:∃y m d,Fl a.N=some (y,m,d):=by
   obtain⟨n,m,k,f⟩:=uC c.1 c.2;exact⟨_,_,_,qn f⟩
  rcases b with rfl|rfl
  .exact Pl (v:=⟨2,0,y⟩) (e:=0) (by grind[ea,Ka,Yc]) (by grind[pa,Xi,Yc])
  .exact Pl (v:=⟨2,0,m⟩) (e:=0) (by grind[ea,Ka,Yc]) (by grind[pa,Xi,Yc])
 .rcases b with rfl|rfl
  all_goals grind[ea,Ka,tw,Yc]
theorem maa{env:GEnv}(he:EnvOk env) (hf:ru ⟨33,N⟩ env=true) (ha:Ga a):Tx (Cb ⟨33,N⟩ [a] env):=by
 simp only[ru,Jaa,if_false,if_true,decide_eq_true_eq]at hf;have hm:env.Tables[N.toNat]'(by omega)∈env.Tables:=Iaa _;have hi:idx env.Tables N=some (env.Tables[N.toNat]'(by omega)):=bh hf.1 hf.2;generalize env.Tables[N.toNat]'(by omega)=t at hi hm;have ht:=he.tabs t hm;have d:Yw a=true:=decide_eq_true ha;have b:ea ⟨33,N⟩ [a] env=some (decide (a.a=t.ab.a/\a.g=t.ab.g/\1<=t.Value.a/\t.Value.a<=6)):=by
  simp only[ea,Jaa,if_false,if_true,hi,Yc,zaa,Dt,d,Jab]
  grind
 by_cases hc:a.a=t.ab.a/\a.g=t.ab.g/\1<=t.Value.a/\t.Value.a<=6
 .rw[decide_eq_true hc]at b;have c:pa ⟨33,N⟩ [a] env=if(Hz t env.ae a.N).2=false then some (⟨0,0,0⟩,6)else(idx t.Rows (Hz t env.ae a.N).1).bind λe=>some (⟨t.Value.a,t.Value.g,e.N⟩,0):=by
   grind[pa,Yc,qC]
  by_cases hl:(Hz t env.ae a.N).2=true
  .grind[VQ,ya,Pl]
  .rw[lac.2 hl]at c
   grind[Pl]
 grind[tw]
theorem naa{env:GEnv}(he:EnvOk env) (hN:Kb ⟨34,N⟩) (hw:U1 ⟨34,N⟩=true) (hf:ru ⟨34,N⟩ env=true) (ha:Ga a):Tx (Cb ⟨34,N⟩ [a] env):=by
 simp only[ru,Jaa,if_false,if_true,decide_eq_true_eq]at hf;have f:0<=N/\N % 8<=5:=by
  simp_all[U1]
 obtain⟨c,d⟩:=hN;dsimp only at c d;have hq:aa .i64 (Naa N 8)=N / 8:=by grind[wid]
 have hr:Taa N 8=N % 8:=gS f.1;rw[hq]at hf;have hm:env.Tables[(N / 8).toNat]'(by omega)∈env.Tables:=Iaa _;have hi:idx env.Tables (N / 8)=some (env.Tables[(N / 8).toNat]'(by omega)):=bh (by omega) hf;generalize env.Tables[(N / 8).toNat]'(by omega)=t at hi hm;have ht:=he.tabs t hm;obtain⟨p,b1,b3⟩:=PS ht.2 env.ae a.N (N % 8);have b:ea ⟨34,N⟩ [a] env=some (decide (a.a=3/\t.ab.a=3/\t.ab.g=0/\t.Value.a=4/\t.Value.g=0)):=by
  simp only[ea,Jaa,if_false,if_true,hq,hi,Yc,zaa]
  grind
 by_cases hc:a.a=3/\t.ab.a=3/\t.ab.g=0/\t.Value.a=4/\t.Value.g=0
 .rw[decide_eq_true hc]at b;exact Pl (v:=⟨3,0,p.1⟩) (e:=p.2) b (by grind[pa,Yc])
 grind[tw]
theorem jaa{c:GValue}{env:GEnv}(ha:Ga a) (hb:Ga b) (hc:Ga c):Tx (Cb ⟨26,N⟩ [a,b,c] env):=by
 by_cases h:a.a=1/\b.a=c.a/\b.g=c.g
 .have d:ea ⟨26,N⟩ [a,b,c] env=some true:=by
   grind[ea,Bd,Yc,gF,GO]
  by_cases hN:a.N=1
  .exact Pl (v:=b) (e:=0) d (by grind[pa,Yc,gF])
  .exact Pl (v:=c) (e:=0) d (by grind[pa,Yc,GO])
 grind[ea,Bd,Yc,gF,GO,tw]
theorem dA{env:GEnv}(h:1<=op/\op<=5):Tx (Cb ⟨op,N⟩ [] env):=by
 refine Pl (v:=⟨op,0,N⟩) (e:=0) ?_ ?_
 .have:op=1\/op=2\/op=3\/op=4\/op=5:=by omega
  rcases this with rfl|rfl|rfl|rfl|rfl<;>simp[ea]
 .have:op=1\/op=2\/op=3\/op=4\/op=5:=by omega
  rcases this with rfl|rfl|rfl|rfl|rfl<;>simp[pa]
theorem TA{env:GEnv}(h:(11<=op/\op<=24)\/(27<=op/\op<=30)):ea ⟨op,N⟩ [a,b] env=Aa op a b:=by
 unfold ea;dsimp only;rw[if_neg (by omega),if_neg (by omega),if_neg (by omega),if_neg (by omega),OY,decide_eq_false (by omega),if_neg (by simp),if_neg (by simp),if_pos (by simp),Yc,gF,zaa,zaa];simp
theorem Av{env:GEnv}(h:(11<=op/\op<=24)\/(27<=op/\op<=30)):pa ⟨op,N⟩ [a,b] env=Ja ⟨op,N⟩ a b:=by
 unfold pa;dsimp only;have c:(op==5)=false:=by grind
 rw[if_neg (by omega),if_neg (by omega),if_neg (by omega),if_neg (by omega),c,zaa,if_neg (by simp),if_neg (by omega),if_neg (by omega),if_neg (by omega),if_neg (by omega),if_neg (by omega),OY,decide_eq_false (by omega),if_neg (by simp),if_neg (by omega),if_neg (by omega),if_neg (by simp),if_pos (by simp),Yc,gF,zaa,zaa,oi]
def KN(a b:GValue):Prop:=a.a=b.a/\a.g=b.g
instance (a b:GValue):Decidable (KN a b):=by unfold KN;infer_instance
theorem ag(a b:GValue):Bd a b=some (decide (KN a b)):=by
 unfold Bd KN;by_cases c:a.a=b.a<;>by_cases h2:a.g=b.g<;>simp[c,h2]
theorem smO:(Aaa (α:=Bool) (if a.a=b.a then some (a.g !=b.g)else some true) k)=k (decide (¬KN a b)):=by
 unfold KN;by_cases c:a.a=b.a
 .rw[if_pos c,zaa];congr 1
  grind
 simp_all
theorem Ql.ite[Decidable c] {env:GEnv}{e:Int}(a:ea n args env=some (decide c)) (hco:c->pa n args env=some (v,e)) (b:db n args env=if c then some (if e=0 then Xo v else(⟨0,0,0⟩,e))else some (⟨0,0,0⟩,8)):Ql (Cb n args env) (db n args env):=by
 by_cases h:c
 .rw[decide_eq_true h]at a;rw[if_pos h]at b
  grind[Dd]
 .rw[decide_eq_false h]at a;rw[if_neg h]at b
  grind[Vl]
theorem zC{a b:Prop} [Decidable a] [Decidable b]:(if decide a=true then some (decide b)else some false)=some (decide (a/\b)):=by
 grind
theorem oV{env:GEnv}(d:op=11\/op=12) (ha:Ga a) (hb:Ga b):Ql (Cb ⟨op,N⟩ [a,b] env) (db ⟨op,N⟩ [a,b] env):=by
 have h1:=ha.range;have h2:=hb.range;have c:ea ⟨op,N⟩ [a,b] env=some (decide (KN a b/\2<=a.a/\a.a<=4)):=by
  rw[TA (by omega)];rcases d with rfl|rfl<;>simp only[Aa,Jaa,if_true,if_false,zaa,ag,Vb,zC,Oaa]
 rcases d with rfl|rfl
 .refine Ql.ite (v:=⟨a.a,0,a.N+b.N⟩) (e:=0) c (λ_=>?_) ?_
  .rw[Av (by omega)];simp only[Ja,if_true,zaa,wid (n:=a.N+b.N) (by omega) (by omega)]
  .simp only[db,pb,decide_true,decide_false,Hc,smO,pj,Iab,Jaa,Oaa,if_true,if_false,zaa,Eaa,wid (n:=a.N+b.N) (by omega) (by omega),qb,oi]
   grind
 .refine Ql.ite (v:=⟨a.a,0,a.N-b.N⟩) (e:=0) c (λ_=>?_) ?_
  .rw[Av (by omega)];simp only[Ja,Jaa,Oaa,if_true,if_false,Eaa,zaa,wid (n:=a.N-b.N) (by omega) (by omega)]
  .simp only[db,pb,decide_true,decide_false,Hc,smO,pj,Iab,Jaa,Oaa,if_true,if_false,zaa,Eaa,wid (n:=a.N-b.N) (by omega) (by omega),qb,oi]
   grind
theorem smEq(h:KN a b) (hn:a.N=b.N):a=b:=by
 obtain⟨k,e,n⟩:=a;obtain⟨k',e',n'⟩:=b;obtain⟨h1,h2⟩:=h
 simp_all
theorem pV{env:GEnv}(c:op=17\/op=18) (ha:Ga a) (hb:Ga b):Ql (Cb ⟨op,N⟩ [a,b] env) (db ⟨op,N⟩ [a,b] env):=by
 have h1:=ha.range;have hk:(2<=a.a/\a.a<=5)↔((2<=a.a/\a.a<=4)\/a.a=5):=by omega
 have d:ea ⟨op,N⟩ [a,b] env=some (decide (KN a b/\2<=a.a/\a.a<=5)):=by
  rw[TA (by omega)];rcases c with rfl|rfl<;>simp only[Aa,Jaa,if_true,if_false,zaa,ag,Vb,zC,Oaa,Eaa,hk]
  all_goals grind
 have i:db ⟨op,N⟩ [a,b] env=if KN a b/\2<=a.a/\a.a<=5 then some (if(op==17)=decide (a.N<b.N)then(a,0)else(b,0))else some (⟨0,0,0⟩,8):=by
  rcases c with rfl|rfl<;>simp only[db,pb,decide_true,decide_false,Hc,smO,pj,Iab,Jaa,Oaa,if_true,if_false,zaa,Eaa,oi,hk]
  all_goals grind
 have f:KN a b/\2<=a.a/\a.a<=5->pa ⟨op,N⟩ [a,b] env=some ((if(op==17)=decide (a.N<b.N)then a else b),0):=by
  intro hc;rw[Av (by omega)];have he:=λh=>smEq hc.1 h;rcases c with rfl|rfl<;>simp only[Ja,Iab,Jaa,Oaa,if_true,if_false,zaa,Eaa]
  all_goals grind
 refine Ql.ite (e:=0) d f ?_;rw[i,if_pos rfl];by_cases g:(op==17)=decide (a.N<b.N)
 all_goals simp_all[vA]
theorem qV{env:GEnv}(d:op=19\/op=20) (ha:Ga a) (hb:Ga b):Ql (Cb ⟨op,N⟩ [a,b] env) (db ⟨op,N⟩ [a,b] env):=by
 have c:ea ⟨op,N⟩ [a,b] env=some (decide (KN a b)):=by
  rw[TA (by omega)];rcases d with rfl|rfl<;>simp only[Aa,Jaa,if_true,if_false,zaa,ag,Oaa,Eaa]
 rcases d with rfl|rfl
 .refine Ql.ite (v:=⟨1,0,if(a.N==b.N)=true then 1 else 0⟩) (e:=0) c (λ_=>?_) ?_
  .simp_all[Ja,Av,Ge]
  .simp only[db,pb,decide_true,decide_false,Hc,smO,Iab,Jaa,Oaa,if_true,if_false,zaa,Eaa,Nl,oi,Pu];simp
 .refine Ql.ite (v:=⟨1,0,if(a.N !=b.N)=true then 1 else 0⟩) (e:=0) c (λ_=>?_) ?_
  .simp_all[Ja,Av,Ge]
  .simp only[db,pb,decide_true,decide_false,Hc,smO,Iab,Jaa,Oaa,if_true,if_false,zaa,Eaa,Nl,oi,Pu];simp
theorem rV{env:GEnv}(d:op=21\/op=22) (ha:Ga a) (hb:Ga b):Ql (Cb ⟨op,N⟩ [a,b] env) (db ⟨op,N⟩ [a,b] env):=by
 have hk:(2<=a.a/\a.a<=5)↔((2<=a.a/\a.a<=4)\/a.a=5):=by omega
 have c:ea ⟨op,N⟩ [a,b] env=some (decide (KN a b/\2<=a.a/\a.a<=5)):=by
  rw[TA (by omega)];rcases d with rfl|rfl<;>simp only[Aa,Jaa,if_true,if_false,zaa,ag,Vb,zC,Oaa,Eaa,hk]
  all_goals grind
 rcases d with rfl|rfl
 .refine Ql.ite (v:=⟨1,0,if decide (a.N<b.N)=true then 1 else 0⟩) (e:=0) c (λ_=>?_) ?_
  .simp_all[Ja,Av,Ge]
  .simp only[db,pb,decide_true,decide_false,Hc,smO,pj,Iab,Jaa,Oaa,if_true,if_false,zaa,Eaa,Nl,oi,Pu,hk]
   grind
 .refine Ql.ite (v:=⟨1,0,if decide (a.N<=b.N)=true then 1 else 0⟩) (e:=0) c (λ_=>?_) ?_
  .simp_all[Ja,Av,Ge]
  .simp only[db,pb,decide_true,decide_false,Hc,smO,pj,Iab,Jaa,Oaa,if_true,if_false,zaa,Eaa,Nl,oi,Pu,hk]
   grind
theorem SO(h:Ga a) (hk:a.a=1):a.g=0/\(a.N=0\/a.N=1):=by unfold Ga at h;omega
theorem sV{env:GEnv}(d:op=23\/op=24) (ha:Ga a) (hb:Ga b):Ql (Cb ⟨op,N⟩ [a,b] env) (db ⟨op,N⟩ [a,b] env):=by
 have h1:=ha.range;have h2:=hb.range;have c:ea ⟨op,N⟩ [a,b] env=some (decide (a.a=1/\b.a=1)):=by
  rw[TA (by omega)];rcases d with rfl|rfl<;>simp only[Aa,Jaa,if_true,if_false,zaa,Oaa,Eaa]
  all_goals grind
 have f:(KN a b/\a.a=1)↔(a.a=1/\b.a=1):=by
  unfold KN
  grind[SO]
 by_cases hc:a.a=1/\b.a=1
 .have e1:=SO ha hc.1;have e2:=SO hb hc.2;have hs:=f.2 hc;have n1:=e1.2;have n2:=e2.2;rw[decide_eq_true hc]at c;have e:pa ⟨op,N⟩ [a,b] env=some (⟨1,0,if(if op=23 then decide (a.N=1/\b.N=1)else decide (a.N=1\/b.N=1))=true then 1 else 0⟩,0):=by
   rw[Av (by omega)];rcases d with rfl|rfl<;>simp only[Ja,Jaa,Oaa,if_true,if_false,Eaa,zaa,Ge]
   all_goals grind
  have hre:db ⟨op,N⟩ [a,b] env=some (Xo ⟨1,0,if(if op=23 then decide (a.N=1/\b.N=1)else decide (a.N=1\/b.N=1))=true then 1 else 0⟩):=by
   rw[Pu];rcases d with rfl|rfl<;>simp only[db,pb,decide_true,decide_false,Hc,smO,Iab,Jaa,Oaa,if_true,if_false,zaa,Eaa,Nl,oi,wid (n:=a.N+b.N) (by omega) (by omega)]
   all_goals grind
  exact Dd c e (by simp_all)
 .rw[decide_eq_false hc]at c;refine Vl c ?_;rcases d with rfl|rfl<;>simp only[db,pb,decide_true,decide_false,Hc,smO,Iab,Jaa,Oaa,if_true,if_false,zaa,Eaa,Nl,oi]
  all_goals simp_all
theorem core_27{env:GEnv}(ha:Ga a) (hb:Ga b):Ql (Cb ⟨27,N⟩ [a,b] env) (db ⟨27,N⟩ [a,b] env):=by
 have h1:=ha.range;have h2:=hb.range;have c:ea ⟨27,N⟩ [a,b] env=some (decide (a.a=5/\b.a=2)):=by
  rw[TA (by omega)]
  grind[Aa]
 refine Ql.ite (v:=⟨5,0,a.N+b.N⟩) (e:=0) c (λhc=>?_) ?_
 .rw[Av (by omega)];simp only[Ja,Jaa,Oaa,if_true,if_false,Eaa,zaa,wid (n:=a.N+b.N) (by omega) (by omega),hc.1]
 .simp only[db,pb,decide_true,decide_false,ln,Iab,Jaa,Oaa,if_true,if_false,zaa,Eaa,wid (n:=a.N+b.N) (by omega) (by omega),qb,oi,not_true]
  grind
theorem am_both(a:Int) (j:Int) (ha:0<=a/\a<=109572):∃p,Be a j=some p/\jg a j=some p:=by
 by_cases hj:-3600<=j/\j<=3600
 .obtain⟨n,m,k,b⟩:=uC ha.1 ha.2;exact⟨_,wq b hj,Lt b hj⟩
 simp_all[Be,jg,nk,yr]
theorem plK5(h:Ga a) (hk:a.a=5):0<=a.N/\a.N<=109572:=by unfold Ga at h;omega
theorem core_28{env:GEnv}(ha:Ga a) (hb:Ga b):Ql (Cb ⟨28,N⟩ [a,b] env) (db ⟨28,N⟩ [a,b] env):=by
 have c:ea ⟨28,N⟩ [a,b] env=some (decide (a.a=5/\b.a=2)):=by
  rw[TA (by omega)]
  grind[Aa]
 by_cases hc:a.a=5/\b.a=2
 .obtain⟨p,p1,d⟩:=am_both a.N b.N (plK5 ha hc.1);rw[decide_eq_true hc]at c;refine Dd (v:=⟨5,0,p.1⟩) (e:=p.2) c ?_ ?_
  .simp_all[Ja,Av]
  .simp only[db,pb,decide_true,decide_false,ln,Iab,Jaa,Oaa,if_true,if_false,zaa,Eaa,d,Gn,oi,not_true,hc.1,hc.2,not_false_eq_true]
 .rw[decide_eq_false hc]at c;refine Vl c ?_
  grind[db,pb,ln]
theorem tV{env:GEnv}(d:op=29\/op=30) (ha:Ga a) (hb:Ga b):Ql (Cb ⟨op,N⟩ [a,b] env) (db ⟨op,N⟩ [a,b] env):=by
 have h1:=ha.range;have h2:=hb.range;have c:ea ⟨op,N⟩ [a,b] env=some (decide (a.a=5/\b.a=5)):=by
  rw[TA (by omega)];rcases d with rfl|rfl<;>simp only[Aa,Jaa,if_true,if_false,zaa,Oaa,Eaa]
  all_goals grind
 obtain⟨y,y1,f,-⟩:=years_s a.N b.N;rcases d with rfl|rfl
 .refine Ql.ite (v:=⟨2,0,b.N-a.N⟩) (e:=0) c (λhc=>?_) ?_
  .rw[Av (by omega)];simp only[Ja,Jaa,Oaa,if_true,if_false,Eaa,zaa,wid (n:=b.N-a.N) (by omega) (by omega)]
  .simp only[db,pb,decide_true,decide_false,ln,Iab,Jaa,Oaa,if_true,if_false,zaa,Eaa,wid (n:=b.N-a.N) (by omega) (by omega),qb,oi,not_true,not_false_eq_true]
   grind
 .refine Ql.ite (v:=⟨2,0,y⟩) (e:=0) c (λhc=>?_) ?_
  .simp_all[Ja,Av]
  .simp only[db,pb,decide_true,decide_false,ln,Iab,Jaa,Oaa,if_true,if_false,zaa,Eaa,f,qb,oi,not_true,not_false_eq_true]
   grind
theorem Tx.ite[Decidable c] {env:GEnv}{e:Int}(hal:ea n args env=some (decide c)) (hco:c->pa n args env=some (v,e)):Tx (Cb n args env):=by
 by_cases h:c
 all_goals grind[Pl,tw]
theorem VR{env:GEnv}(d:op=11\/op=12) (ha:Ga a) (hb:Ga b):Tx (Cb ⟨op,N⟩ [a,b] env):=by
 have h1:=ha.range;have h2:=hb.range;have c:ea ⟨op,N⟩ [a,b] env=some (decide (KN a b/\2<=a.a/\a.a<=4)):=by
  rw[TA (by omega)];rcases d with rfl|rfl<;>simp only[Aa,Jaa,if_true,if_false,zaa,ag,Vb,zC,Oaa]
 rcases d with rfl|rfl
 .refine Tx.ite (v:=⟨a.a,0,a.N+b.N⟩) (e:=0) c (λ_=>?_);rw[Av (by omega)];simp only[Ja,if_true,zaa,wid (n:=a.N+b.N) (by omega) (by omega)]
 .refine Tx.ite (v:=⟨a.a,0,a.N-b.N⟩) (e:=0) c (λ_=>?_);rw[Av (by omega)];simp only[Ja,Jaa,Oaa,if_true,if_false,Eaa,zaa,wid (n:=a.N-b.N) (by omega) (by omega)]
theorem WR{env:GEnv}(c:op=17\/op=18) (ha:Ga a) (hb:Ga b):Tx (Cb ⟨op,N⟩ [a,b] env):=by
 have h1:=ha.range;have hk:(2<=a.a/\a.a<=5)↔((2<=a.a/\a.a<=4)\/a.a=5):=by omega
 have hal:ea ⟨op,N⟩ [a,b] env=some (decide (KN a b/\2<=a.a/\a.a<=5)):=by
  rw[TA (by omega)];rcases c with rfl|rfl<;>simp only[Aa,Jaa,if_true,if_false,zaa,ag,Vb,zC,Oaa,Eaa,hk]
  all_goals grind
 have hco:KN a b/\2<=a.a/\a.a<=5->pa ⟨op,N⟩ [a,b] env=some ((if(op==17)=decide (a.N<b.N)then a else b),0):=by
  intro hc;rw[Av (by omega)];have he:=λh=>smEq hc.1 h;rcases c with rfl|rfl<;>simp only[Ja,Iab,Jaa,Oaa,if_true,if_false,zaa,Eaa]
  all_goals grind
 grind[Tx.ite]
theorem XR{env:GEnv}(d:op=19\/op=20):Tx (Cb ⟨op,N⟩ [a,b] env):=by
 have c:ea ⟨op,N⟩ [a,b] env=some (decide (KN a b)):=by
  rw[TA (by omega)];rcases d with rfl|rfl<;>simp only[Aa,Jaa,if_true,if_false,zaa,ag,Oaa,Eaa]
 rcases d with rfl|rfl
 .refine Tx.ite (v:=⟨1,0,if(a.N==b.N)=true then 1 else 0⟩) (e:=0) c (λ_=>?_)
  simp_all[Ja,Av,Ge]
 .refine Tx.ite (v:=⟨1,0,if(a.N !=b.N)=true then 1 else 0⟩) (e:=0) c (λ_=>?_)
  simp_all[Ja,Av,Ge]
theorem YR{env:GEnv}(d:op=21\/op=22):Tx (Cb ⟨op,N⟩ [a,b] env):=by
 have hk:(2<=a.a/\a.a<=5)↔((2<=a.a/\a.a<=4)\/a.a=5):=by omega
 have c:ea ⟨op,N⟩ [a,b] env=some (decide (KN a b/\2<=a.a/\a.a<=5)):=by
  rw[TA (by omega)];rcases d with rfl|rfl<;>simp only[Aa,Jaa,if_true,if_false,zaa,ag,Vb,zC,Oaa,Eaa,hk]
  all_goals grind
 rcases d with rfl|rfl
 .refine Tx.ite (v:=⟨1,0,if decide (a.N<b.N)=true then 1 else 0⟩) (e:=0) c (λ_=>?_)
  simp_all[Ja,Av,Ge]
 .refine Tx.ite (v:=⟨1,0,if decide (a.N<=b.N)=true then 1 else 0⟩) (e:=0) c (λ_=>?_)
  simp_all[Ja,Av,Ge]
theorem ZR{env:GEnv}(c:op=23\/op=24) (ha:Ga a) (hb:Ga b):Tx (Cb ⟨op,N⟩ [a,b] env):=by
 have d:ea ⟨op,N⟩ [a,b] env=some (decide (a.a=1/\b.a=1)):=by
  rw[TA (by omega)];rcases c with rfl|rfl<;>simp only[Aa,Jaa,if_true,if_false,zaa,Oaa,Eaa]
  all_goals grind
 refine Tx.ite (v:=⟨1,0,if(if op=23 then decide (a.N=1/\b.N=1)else decide (a.N=1\/b.N=1))=true then 1 else 0⟩) (e:=0) d λhc=>?_;have n1:=(SO ha hc.1).2;have n2:=(SO hb hc.2).2;rw[Av (by omega)];rcases c with rfl|rfl<;>simp only[Ja,Jaa,Oaa,if_true,if_false,Eaa,zaa,Ge]
 all_goals grind
theorem kaa{env:GEnv}(ha:Ga a) (hb:Ga b):Tx (Cb ⟨27,N⟩ [a,b] env):=by
 have h1:=ha.range;have h2:=hb.range;have c:ea ⟨27,N⟩ [a,b] env=some (decide (a.a=5/\b.a=2)):=by
  rw[TA (by omega)]
  grind[Aa]
 refine Tx.ite (v:=⟨5,0,a.N+b.N⟩) (e:=0) c (λhc=>?_);rw[Av (by omega)];simp only[Ja,Jaa,Oaa,if_true,if_false,Eaa,zaa,wid (n:=a.N+b.N) (by omega) (by omega),hc.1]
theorem am_p(a:Int) (j:Int) (ha:0<=a/\a<=109572):∃p,Be a j=some p:=by
 by_cases hj:-3600<=j/\j<=3600
 .obtain⟨n,m,k,b⟩:=uC ha.1 ha.2;exact⟨_,wq b hj⟩
 simp_all[Be,nk]
theorem laa{env:GEnv}(ha:Ga a):Tx (Cb ⟨28,N⟩ [a,b] env):=by
 have c:ea ⟨28,N⟩ [a,b] env=some (decide (a.a=5/\b.a=2)):=by
  rw[TA (by omega)]
  grind[Aa]
 by_cases hc:a.a=5/\b.a=2
 .obtain⟨p,p1⟩:=am_p a.N b.N (plK5 ha hc.1);rw[decide_eq_true hc]at c;refine Pl (v:=⟨5,0,p.1⟩) (e:=p.2) c ?_
  simp_all[Ja,Av]
 grind[tw]
theorem aS{env:GEnv}(d:op=29\/op=30) (ha:Ga a) (hb:Ga b):Tx (Cb ⟨op,N⟩ [a,b] env):=by
 have h1:=ha.range;have h2:=hb.range;have c:ea ⟨op,N⟩ [a,b] env=some (decide (a.a=5/\b.a=5)):=by
  rw[TA (by omega)];rcases d with rfl|rfl<;>simp only[Aa,Jaa,if_true,if_false,zaa,Oaa,Eaa]
  all_goals grind
 obtain⟨y,y1,-⟩:=years_p a.N b.N;rcases d with rfl|rfl
 .refine Tx.ite (v:=⟨2,0,b.N-a.N⟩) (e:=0) c (λhc=>?_);rw[Av (by omega)];simp only[Ja,Jaa,Oaa,if_true,if_false,Eaa,zaa,wid (n:=b.N-a.N) (by omega) (by omega)]
 .refine Tx.ite (v:=⟨2,0,y⟩) (e:=0) c (λhc=>?_)
  simp_all[Ja,Av]
structure SkInv (i:Nat) (st sk:List Int):Prop where
 len:st.length=i
 pos:0<i->sk≠[]
 zero:i=0->sk=[]
 last:∀k,k+1=sk.length->st[i-1]?=sk[k]?
 chain:∀j,j+1<sk.length->∃a b:Nat,sk[j]?=some (a:Int)/\sk[j+1]?=some (b:Int)/\a<b/\st[b-1]?=some (a:Int)
 bound:∀j,j<sk.length->∃a:Nat,sk[j]?=some (a:Int)/\a<i
theorem PU{e:List GNode}(h:Wst e):∀i,i<=e.length->SkInv i (Kh e i).1 (Kh e i).2
 |0,_=>by
  refine⟨rfl,by omega,λ_=>rfl,?_,?_,?_⟩
  all_goals grind[Kh]
 |i+1,hi=>by
  have d:=PU h i (by omega);obtain⟨a1,a2,a3⟩:=h.ar (i:=i) (by omega);have o:Kh e (i+1)=((Kh e i).1++[if 0<Fi e i then((Kh e i).2[(Kh e i).2.length-Fi e i]?).getD 0 else(i:Int)],(Kh e i).2.take ((Kh e i).2.length-Fi e i)++[if 0<Fi e i then((Kh e i).2[(Kh e i).2.length-Fi e i]?).getD 0 else(i:Int)]):=rfl;rw[o];generalize (Kh e i).1=st at d⊢;generalize (Kh e i).2=sk at d a2⊢;generalize Fi e i=a at a2⊢;obtain⟨f,hf,hfi,m⟩:∃f:Nat,(if 0<a then(sk[sk.length-a]?).getD 0 else(i:Int))=(f:Int)/\f<=i/\(∀j,j+1=sk.length-a->∃b:Nat,sk[j]?=some (b:Int)/\b<f/\st[f-1]?=some (b:Int)):=by
   by_cases ha:0<a
   .obtain⟨f,h1,h2⟩:=d.bound (sk.length-a) (by omega);refine⟨f,by simp_all,by omega,λj hj=>?_⟩;obtain⟨x,y,l,g,k3,k4⟩:=d.chain j (by omega)
    grind
   .refine⟨i,by omega,by omega,λj hj=>?_⟩;obtain⟨x,l,g⟩:=d.bound j (by omega);refine⟨x,l,g,?_⟩;rw[←l];exact d.last j (by omega)
  rw[hf];have c:(sk.take (sk.length-a)).length=sk.length-a:=by simp
  refine⟨by simp[d.len],λ_=>by simp,λh=>by omega,?_,?_,?_⟩
  .intro k hk;simp only[kab,c,Cab]at hk;rw[Dae,jac (by rw[d.len];omega),d.len,wac,jac (by omega),c,show k-(sk.length-a)=0 by omega]
  .intro j hj;simp only[kab,c,Cab]at hj;by_cases n:j+1<sk.length-a
   .obtain⟨x,y,l,g,k3,k4⟩:=d.chain j (by omega);obtain⟨y',q1,q2⟩:=d.bound (j+1) (by omega);rw[g]at q1;injection q1 with q1;refine⟨x,y,?_,?_,k3,?_⟩
    all_goals grind
   .obtain⟨x,l,g,k3⟩:=m j (by omega);refine⟨x,f,?_,?_,g,?_⟩
    all_goals grind
  .intro j hj;simp only[kab,c,Cab]at hj;by_cases n:j<sk.length-a
   .obtain⟨x,l,g⟩:=d.bound j (by omega)
    grind
   grind
theorem iP{e:List GNode}:∀{n i k:Nat},i<=n->k<i->(Kh e n).1[k]?=(Kh e i).1[k]?
 |0,i,k,h,hk=>by omega
 |n+1,i,k,h,hk=>by
  by_cases hin:i=n+1
  .simp_all
  .have:(Kh e (n+1)).1=(Kh e n).1++[if 0<(ub (Mc e n).Op).toNat then((Kh e n).2[(Kh e n).2.length-(ub (Mc e n).Op).toNat]?).getD 0 else(n:Int)]:=rfl;rw[this,List.getElem?_append_left (by grind[QF])];exact iP (by omega) hk
def Fw(e:List GNode) (i j:Nat):Nat:=if j+1=Fi e i then i-1 else(((Kh e i).2[(Kh e i).2.length-Fi e i+j+1]?).getD 0).toNat-1
def NH(e:List GNode) (i:Nat):List Int:=(Kaa (Fi e i)).map λj=>(Fw e i j:Int)
theorem fv{e:List GNode}(h:Wst e) {i:Nat}(hi:i<e.length) (hj:j<Fi e i):Fw e i j<i/\∃s:Nat,(Kh e e.length).1[Fw e i j]?=some (s:Int)/\(∀d,d+1=j->Fw e i d+1=s):=by
 have b:=PU h i (by omega);obtain⟨a1,a2,a3⟩:=h.ar hi;have hi0:0<i:=by
  rcases Oad i with l|l
  .have:=b.zero l;simp_all
  omega
 have g:Fw e i j<i/\∃s:Nat,(Kh e i).1[Fw e i j]?=some (s:Int)/\(Kh e i).2[(Kh e i).2.length-Fi e i+j]?=some (s:Int):=by
  unfold Fw;generalize (Kh e i).1=st at b⊢;generalize (Kh e i).2=sk at b a2⊢;generalize Fi e i=a at a2 hj⊢;by_cases c:j+1=a
  .rw[if_pos c];obtain⟨x,k,m⟩:=b.bound (sk.length-a+j) (by omega);exact⟨by omega,x,by rw[b.last (sk.length-a+j) (by omega)];omega,k⟩
  .rw[if_neg c];obtain⟨x,y,k,m,k3,k4⟩:=b.chain (sk.length-a+j) (by omega);obtain⟨y',q1,q2⟩:=b.bound (sk.length-a+j+1) (by omega)
   grind
 obtain⟨n,s,h2,h3⟩:=g;refine⟨n,s,by grind[iP],λd f=>?_⟩;subst f;obtain⟨x,y,k,m,k3,k4⟩:=b.chain ((Kh e i).2.length-Fi e i+d) (by omega)
 grind[Fw]
theorem OR{e:List GNode}(h:Wst e):∀{n k s:Nat},n<=e.length->(Kh e n).1[k]?=some (s:Int)->s<=k
 |0,k,s,_,a=>by grind[Kh]
 |n+1,k,s,hn,a=>by
  have hk:k<n+1:=by
   grind[QF]
  by_cases b:k=n
  .subst b;have c:=PU h (k+1) hn;have hne:=c.pos (by omega);obtain⟨q,hq⟩:∃q,q+1=(Kh e (k+1)).2.length:=⟨(Kh e (k+1)).2.length-1,by grind[List.length_pos_iff]⟩;have d:=c.last q hq;rw[Dae,a]at d;obtain⟨x,k1,k2⟩:=c.bound q (by omega)
   grind
  .rw[iP (i:=n) (by omega) (by omega)]at a;exact OR h (by omega) a
theorem vE{e:List GNode}(h:Wst e):Pn e=((Kh e e.length).1,0,0):=by
 have:=h.pos;have:=h.le;have:=h.one;unfold Pn;rw[if_neg (by omega),if_neg (by omega),ab.2 h.err]
 simp_all
theorem jR{e:List GNode}(h:Wst e) {i:Nat}(hi:i<e.length) {step:List Int×Int×Int->Option (Ex (List Int×Int×Int) (List Int) Unit)}
 (g:∀a b c,step (a,b,c)=if 0<=c then(idx a c).bind λ_=>(put a c b).bind λm=>(idx (Kh e e.length).1 b).bind λk=>some (.go (m,aa .i64 (k-1),aa .i64 (c-1)))else some (.brk a)) :
 ca step (Daa (Fi e i) 0,(i:Int)-1,(Fi e i:Int)-1)=some (.inl (NH e i)):=by
 have hle:=h.le;obtain⟨a1,a2,a3⟩:=h.ar hi;have ha3:Fi e i<=12:=by have:=Uu (e:=e) (i:=i) λj hj=>h.err j (by omega);omega
 refine kf (λt=>(Daa (Fi e i-t) 0++(NH e i).drop (Fi e i-t),(if t=0 then(i:Int)-1 else if t=Fi e i then(((Kh e e.length).1[Fw e i 0]?).getD 0)-1 else(Fw e i (Fi e i-t-1):Int)),(Fi e i:Int)-1-t)) (Fi e i) _ (λt ht=>?_) ?_ ?_
 .obtain⟨j,hj⟩:∃j,Fi e i=t+j+1:=⟨Fi e i-t-1,by omega⟩;obtain⟨o1,s,l,o3⟩:=fv h hi (j:=j) (by omega);rw[g];have d:(if t=0 then(i:Int)-1 else if t=Fi e i then(((Kh e e.length).1[Fw e i 0]?).getD 0)-1 else(Fw e i (Fi e i-t-1):Int))=(Fw e i j:Int):=by
   by_cases t0:t=0
   .grind[Fw]
   grind
  rw[d,if_pos (by omega),show(Fi e i:Int)-1-t=((j:Nat):Int) by omega];have hL:(NH e i).length=Fi e i:=by simp[NH]
  rw[ya (i:=j) (by grind),zaa,aB (by grind),zaa];rw[u6,l,zaa];have f:(Daa (Fi e i-t) 0++(NH e i).drop (Fi e i-t)).set j (Fw e i j:Int)=Daa (Fi e i-(t+1)) 0++(NH e i).drop (Fi e i-(t+1)):=by
   rw[show Fi e i-t=j+1 by omega,show Fi e i-(t+1)=j by omega,List.replicate_succ',Yab,Iac _ _ (by simp),Zab,wac]
   grind[NH,mab]
  have hlt:Fw e i j<(Kh e e.length).1.length:=by grind
  have g:(s:Int)-1=(if t+1=0 then(i:Int)-1 else if t+1=Fi e i then(((Kh e e.length).1[Fw e i 0]?).getD 0)-1 else(Fw e i (Fi e i-(t+1)-1):Int)):=by
   rw[if_neg (by omega)];by_cases j0:j=0
   all_goals grind
  have hsb:(0:Int)<=s/\(s:Int)<=100:=by
   have:=OR h (Paa _) l;omega
  rw[f,wid (n:=(s:Int)-1) (by omega) (by omega),wid (n:=((j:Nat):Int)-1) (by omega) (by omega),g];congr 4;omega
 .grind
 simp_all[NH]
theorem Rz{e:List GNode}(h:Wst e) {i:Nat}(hi:i<e.length):Sp e (i:Int)=some (NH e i):=by
 have hle:=h.le;obtain⟨a1,a2,a3⟩:=h.ar hi;have ha3:Fi e i<=12:=by have:=Uu (e:=e) (i:=i) λj hj=>h.err j (by omega);omega
 have f:ub (Mc e i).Op=(Fi e i:Int):=by grind[Fi]
 unfold Sp;rw[Rt,vE h,zaa];dsimp only;have d:(if(0:Int)=0 then if¬(i:Int)<0 then some (decide ((e.length:Int)<=(i:Int)))else some true else some true)=some false:=by
  simp_all
 rw[d];simp only[zaa,Eaa,if_false];rw[ya hi,zaa,bm hi,qv,zaa,f,Zy (by omega) (by omega),zaa,wid (n:=(i:Int)-1) (by omega) (by omega),wid (n:=(Fi e i:Int)-1) (by omega) (by omega),jR h hi λa b c=>by grind[Ot]];rfl
theorem Mr{e:List GNode}(h:Wst e) {i:Nat}(hi:i<e.length) {env:GEnv}:Ze ⟨e,(Kh e e.length).1,env⟩ (i:Int)=some (NH e i):=by
 have hle:=h.le;obtain⟨a1,a2,a3⟩:=h.ar hi;have ha3:Fi e i<=12:=by have:=Uu (e:=e) (i:=i) λj hj=>h.err j (by omega);omega
 have d:ub (Mc e i).Op=(Fi e i:Int):=by grind[Fi]
 unfold Ze;dsimp only;rw[ya hi,zaa,bm hi,sn,zaa,d,Zy (by omega) (by omega),zaa,Zab,wid (n:=(i:Int)-1) (by omega) (by omega),wid (n:=(Fi e i:Int)-1) (by omega) (by omega),jR h hi λa b c=>by grind[Wi]];rfl
noncomputable def YL(e:List GNode) (env:GEnv) (i:Nat):GValue×Int:=((Fa (3*i+3)).1 e i env).getD (⟨0,0,0⟩,0)
structure NodeB (e:List GNode) (env:GEnv) (i:Nat):Prop where
 p:∀n,3*i+3<=n->(ba n).1 ⟨e,(Kh e e.length).1,env⟩ i=some (YL e env i)
 r:∀n,3*i+3<=n->(Fa n).1 e i env=some (YL e env i)
 ok:(YL e env i).2=0->Ga (YL e env i).1
theorem gR{e:List GNode}{env:GEnv}{i:Nat}(q:GValue×Int) (h1:∀n,3*i+3<=n->(ba n).1 ⟨e,(Kh e e.length).1,env⟩ i=some q) (h2:∀n,3*i+3<=n->(Fa n).1 e i env=some q) (h3:q.2=0->Ga q.1):NodeB e env i:=by
 have:YL e env i=q:=by simp_all[YL]
 exact⟨by simp_all,by simp_all,by simp_all⟩
theorem SD(e:List GNode) (i:Nat):Fi e i<=3:=by
 grind[Fi,ub]
noncomputable def UA(e:List GNode) (env:GEnv) (i:Nat):List GValue:=(Kaa (Fi e i)).map λt=>(YL e env (Fw e i t)).1
noncomputable def SN(e:List GNode) (env:GEnv) (i:Nat) (t:Nat):Option (GValue×Int):=if¬(YL e env (Fw e i t)).2=0 then some (⟨0,0,0⟩,(YL e env (Fw e i t)).2)else none
theorem tF(e:List GNode) (i:Nat):(NH e i).length=Fi e i:=by simp[NH]
theorem Jw{e:List GNode}{i t:Nat}(h:t<Fi e i):idx (NH e i) (t:Int)=some ((Fw e i t:Nat):Int):=by
 grind[NH,ya]
theorem tx{f:Nat->α}{k t:Nat}(h:t<k):((Kaa k).map f).take (t+1)=((Kaa k).map f).take t++[f t]:=by
 grind[Xaa]
theorem args_p{e:List GNode}{env:GEnv}(h:Wst e) {i:Nat}(hi:i<e.length) {n:Nat}(b:∀j,j<i->(ba n).1 ⟨e,(Kh e e.length).1,env⟩ j=some (YL e env j)) :
 ca (Za ⟨e,(Kh e e.length).1,env⟩ (NH e i) (ba n).1) (Daa (Fi e i) ⟨0,0,0⟩,0)=some (Eb (UA e env i) (ff (SN e env i) (Fi e i))):=by
 have hl:=tF e i;have h3:=SD e i;refine xb (step:=Za ⟨e,(Kh e e.length).1,env⟩ (NH e i) (ba n).1) (λt=>((UA e env i).take t++Daa (Fi e i-t) ⟨0,0,0⟩,(t:Int))) (SN e env i) (Fi e i) (UA e env i) (λt ht _=>?_) (λ_=>?_) (by simp)
 .obtain⟨c,-⟩:=fv h hi ht;have a:(UA e env i).length=Fi e i:=by simp[UA]
  unfold Za;dsimp only;rw[if_pos (by omega),Jw ht,zaa,b _ c,zaa];unfold SN;by_cases hc:(YL e env (Fw e i t)).2=0
  .rw[if_neg (Haa.2 hc),if_neg (Haa.2 hc)];rw[ya (by grind),zaa,aB (by grind),zaa,sa (by omega)];unfold aD;dsimp only;congr 3;rw[Iac _ _ (by grind),show t-((UA e env i).take t).length=0 by grind,show Fi e i-t=(Fi e i-(t+1))+1 by omega,jab,eac]
   grind[UA,tx]
  .rw[if_pos hc,if_pos hc];rfl
 .unfold Za;dsimp only;rw[if_neg (by omega),wac];have a:(UA e env i).length=Fi e i:=by simp[UA]
  grind
theorem args_r{e:List GNode}{env:GEnv}(h:Wst e) {i:Nat}(hi:i<e.length) {n:Nat}(a:∀j,j<i->(Fa n).1 e j env=some (YL e env j)) :
 ca (Lm e env (NH e i) (Fa n).1) (([]:List GValue),0)=some (Eb (UA e env i) (ff (SN e env i) (Fi e i))):=by
 have hl:=tF e i;have h3:=SD e i;refine xb (step:=Lm e env (NH e i) (Fa n).1) (λt=>((UA e env i).take t,(t:Int))) (SN e env i) (Fi e i) (UA e env i) (λt ht _=>?_) (λ_=>?_) (by simp)
 .obtain⟨b,-⟩:=fv h hi ht;unfold Lm;dsimp only;rw[if_pos (by omega),Jw ht,zaa,a _ b,zaa];unfold SN;by_cases hc:(YL e env (Fw e i t)).2=0
  .rw[if_neg (Haa.2 hc),if_neg (Haa.2 hc)]
   grind[aD,UA,uf,sa,tx]
  .rw[if_pos hc,if_pos hc];rfl
 .unfold Lm;dsimp only;have hlen:(UA e env i).length=Fi e i:=by simp[UA]
  grind
theorem ZV:(Aaa (α:=Bool) (if op=23 then some true else if op=24 then some true else some (op==26)) k)=k (decide (op=23\/op=24\/op=26)):=by
 grind
theorem J6:(Aaa (α:=Bool) (if¬op=23 then if¬op=24 then some (op==26)else some true else some true) k)=k (decide (op=23\/op=24\/op=26)):=by
 grind
def ir(p:GValue×Int):GValue×Int:=if¬p.2=0 then(⟨0,0,0⟩,p.2)else if p.1.a=1/\Ga p.1 then p else(⟨0,0,0⟩,8)
theorem boolO:(Aaa (α:=Bool) (if v.a=1 then(Fb v).bind λa=>some (!a)else some true) k)=k (decide (¬(v.a=1/\Ga v))):=by
 grind[Yw,eb]
theorem boolO2:(Aaa (α:=Bool) (if v.a=1 then(wb v).bind λa=>some (!a)else some true) k)=k (decide (¬(v.a=1/\Ga v))):=by
 grind[Yw,sd]
theorem M3{a:GEval_evaluator->Int->Option (GValue×Int)}{b c}{x:GEval_evaluator}{j:Int}{p:GValue×Int}(h:a x j=some p):Mb a b c x j=some (ir p):=by
 unfold Mb ir;rw[h,zaa];simp only[boolO]
 grind
def HH(op N:Int) (a b c:GValue×Int):GValue×Int:=
 if¬N=0 then(⟨0,0,0⟩,2)else
 if¬(ir a).2=0 then(⟨0,0,0⟩,(ir a).2)else
 if op=26 then(if(ir a).1.N=1 then b else c)else
 if(op==23)=((ir a).1.N==0)then((ir a).1,0)else ir b
theorem SQ{c a b:GValue×Int}(h1:a.2=0->Ga a.1) (h2:b.2=0->Ga b.1):(HH op N c a b).2=0->Ga (HH op N c a b).1:=by
 grind[HH,ir]
theorem node_gb{e:List GNode}(h:Wst e) {env:GEnv}(G:∀i,i<e.length->¬((Mc e i).Op=23\/(Mc e i).Op=24\/(Mc e i).Op=26)->Ql (Ff (Mc e i) (UA e env i) env) (Wp (Mc e i) (UA e env i) env)):∀i,i<e.length->NodeB e env i:=by
 intro i
 induction i using dad with
 |_ i o=>
  intro hi;have hle:=h.le;have har:=h.ar hi;have hga:=SD e i;have k:=tF e i;by_cases b:(Mc e i).Op=23\/(Mc e i).Op=24\/(Mc e i).Op=26
  .have hk:2<=Fi e i/\((Mc e i).Op=26->Fi e i=3):=by
    unfold Fi;rcases b with h|h|h<;>rw[h]<;>decide
   have D:=(fv h hi (j:=0) (by omega)).1;have H:=(fv h hi (j:=1) (by omega)).1;have A:=o _ D (by omega);have l:=o _ H (by omega);have C:idx (NH e i) 0=some ((Fw e i 0:Nat):Int):=Jw (t:=0) (by omega);have z:idx (NH e i) 1=some ((Fw e i 1:Nat):Int):=Jw (t:=1) (by omega);have g:(Mc e i).Op=26->NodeB e env (Fw e i 2)/\Fw e i 2<i/\idx (NH e i) 2=some ((Fw e i 2:Nat):Int):=λa=>by
    grind[fv,Jw]
   refine gR (HH (Mc e i).Op (Mc e i).N (YL e env (Fw e i 0)) (YL e env (Fw e i 1)) (if(Mc e i).Op=26 then YL e env (Fw e i 2)else(⟨0,0,0⟩,1))) (λn hn=>?_) (λn hn=>?_) (SQ l.ok (by
    split
    .rename_i a;exact(g a).1.ok
    omega))
   .obtain⟨n,rfl⟩:∃m,n=m+3:=⟨n-3,by omega⟩;show Ua (ba (n+2)).1 (ba (n+2)).2.1 (ba (n+2)).2.2 _ _=_;unfold Ua;dsimp only;rw[ya hi,zaa,bm hi,Mr h hi,zaa,ZV,decide_eq_true b,if_pos rfl,oi];show Sc (ba (n+1)).1 (ba (n+1)).2.1 (ba (n+1)).2.2 _ _ _=_;unfold Sc HH;by_cases c:(Mc e i).N=0
    case neg=>simp_all
    rw[if_neg (Haa.2 c),if_neg (Haa.2 c),C,zaa];have u:∀j,j<i->NodeB e env j->(ba (n+1)).2.2 ⟨e,(Kh e e.length).1,env⟩ (j:Int)=some (ir (YL e env j)):=λj hj hb=>(show Mb (ba n).1 (ba n).2.1 (ba n).2.2 _ _=_ from M3 (hb.p n (by omega)));rw[u _ D A,zaa];by_cases hc:(ir (YL e env (Fw e i 0))).2=0
    case neg=>simp_all
    rw[if_neg (Haa.2 hc),if_neg (Haa.2 hc)];by_cases a:(Mc e i).Op=26
    .obtain⟨s,c2,E⟩:=g a;rw[if_pos a,if_pos a,zaa,if_pos a,if_pos a];by_cases f:(ir (YL e env (Fw e i 0))).1.N=1
     .rw[if_pos (by simp_all),if_pos f,z,zaa,oi];exact l.p (n+1) (by omega)
     .rw[if_neg (by simp_all),if_neg f,E,zaa,oi];exact s.p (n+1) (by omega)
    grind
   .obtain⟨n,rfl⟩:∃m,n=m+3:=⟨n-3,by omega⟩;show Ol (Fa (n+2)).1 (Fa (n+2)).2 _ _ _=_;unfold Ol;rw[Rz h hi,zaa,ya hi,zaa,bm hi,J6,decide_eq_true b,if_pos rfl,oi];show Vt (Fa (n+1)).1 (Fa (n+1)).2 _ _ _ _=_;unfold Vt HH;rw[ya hi,zaa,bm hi];by_cases c:(Mc e i).N=0
    case neg=>simp_all
    rw[if_neg (Haa.2 c),if_neg (Haa.2 c),C,zaa,A.r (n+1) (by omega),zaa];simp only[boolO2];obtain⟨d,x⟩:∃q,YL e env (Fw e i 0)=q:=⟨_,rfl⟩;rw[x];by_cases B:d.2=0
    case neg=>
     simp_all[ir]
    rw[if_neg (Haa.2 B)];by_cases s:d.1.a=1/\Ga d.1
    case neg=>
     have:ir d=(⟨0,0,0⟩,8):=by simp_all[ir]
     simp_all
    have w:ir d=d:=by simp_all[ir]
    rw[decide_eq_false (p:=¬(d.1.a=1/\Ga d.1)) (λh=>h s),if_neg (by simp),w,if_neg (Haa.2 B)];by_cases a:(Mc e i).Op=26
    .obtain⟨d1,d2,F⟩:=g a;rw[if_pos a,if_pos a,if_pos a];by_cases f:d.1.N=1
     .rw[if_pos f,if_pos f,z,zaa,oi];exact l.r (n+1) (by omega)
     .rw[if_neg f,if_neg f,F,zaa,oi];exact d1.r (n+1) (by omega)
    .rw[if_neg a,if_neg a];split
     .rfl
     .rw[z,zaa,l.r (n+1) (by omega),zaa];obtain⟨q1,y⟩:∃q,YL e env (Fw e i 1)=q:=⟨_,rfl⟩;rw[y];unfold ir
      grind
  .obtain⟨q,q1,q2,q3⟩:=G i hi b;have hff:∀v,ff (SN e env i) (Fi e i)=some v->v.2≠0:=by
    grind[SN,Pa]
   refine gR (match ff (SN e env i) (Fi e i)with|some v=>v|none=>q) (λn hn=>?_) (λn hn=>?_) ?_
   .obtain⟨n,rfl⟩:∃m,n=m+1:=⟨n-1,by omega⟩;show Ua (ba n).1 (ba n).2.1 (ba n).2.2 _ _=_;unfold Ua;dsimp only;rw[ya hi,zaa,bm hi,Mr h hi,zaa,ZV,decide_eq_false b,if_neg (by simp),k,Zy (by omega) (by omega),zaa,args_p h hi (λj hj=>(o j hj (by omega)).p n (by omega)),zaa]
    grind[uK,mU]
   .obtain⟨n,rfl⟩:∃m,n=m+1:=⟨n-1,by omega⟩;show Ol (Fa n).1 (Fa n).2 _ _ _=_;unfold Ol;rw[Rz h hi,zaa,ya hi,zaa,bm hi,J6,decide_eq_false b,if_neg (by simp),args_r h hi (λj hj=>(o j hj (by omega)).r n (by omega)),zaa]
    grind[uK,mU]
   grind
theorem B3{l:List GValue}(hl:l.length<=1048576):Gf l=some (l.all Yw):=by
 have e1:ca (nc l) 0=some (Eb () (ff (λi=>if(l[i]?.any λv=>!Yw v)=true then some false else none) l.length)):=
  xb (λi=>(i:Int)) _ l.length () (λi hi _=>by
   unfold nc;rw[if_pos (by omega),ya hi,Baa hi]
   grind[aD,eb,sa]) (λ_=>by grind[nc])
 unfold Gf;rw[e1];by_cases h:l.all Yw=true
 .have hn:∀i,i<l.length->(l[i]?.any λv=>!Yw v)=false:=by
   simp_all
  rw[ab.2 (λi hi=>by simp_all),h];rfl
 .have hb:l.all Yw=false:=by simp_all
  obtain⟨x,hx,hx2⟩:∃x∈l,Yw x=false:=by
   simp_all
  obtain⟨k,hk,rfl⟩:=Maa hx;have ne:ff (λi=>if(l[i]?.any λv=>!Yw v)=true then some false else none) l.length=some false:=by
   cases hf:ff (λi=>if(l[i]?.any λv=>!Yw v)=true then some false else none) l.length with
   |none=>
    grind[ab]
   |some w=>
    obtain⟨i,_,h2,_⟩:=Pa.1 hf
    simp_all
  rw[ne,hb];rfl
theorem JP{env:GEnv}(ha:args.length<=3) (h:1<=n.Op/\n.Op<=39->ub n.Op=args.length->U1 n=true->ru n env=true->(∀a∈args,Ga a)->Tx (Cb n args env)):Tx (Ff n args env):=by
 unfold Ff;rw[wG,sn,Sy,B3 (l:=args) (by omega)];simp only[zaa];have err:∀{c:Int},c≠0->Tx (some (⟨0,0,0⟩,c)):=λh=>⟨_,rfl,λh2=>absurd h2 h⟩;by_cases i:1<=n.Op/\n.Op<=39
 case neg=>grind
 rw[decide_eq_true i];simp only[Jab];by_cases h2:U1 n=true
 case neg=>simp_all
 rw[h2];simp only[if_true];by_cases m:ub n.Op=args.length
 case neg=>
  grind
 have:((args.length:Int) !=ub n.Op)=false:=by grind
 rw[this];simp only[zaa,Eaa,if_false];by_cases j:ru n env=true
 case neg=>simp_all
 rw[j];simp only[Raa,if_false];by_cases k:args.all Yw=true
 case neg=>grind
 rw[k];simp only[if_true];have o:∀a∈args,Ga a:=λa ha=>of_decide_eq_true (fab.1 k a ha);have hc:=h i m h2 j o;have e1:(Aaa (α:=Bool) ((ea n args env).bind λf=>some (!f)) λe=>if e=true then some ((⟨0,0,0⟩:GValue),(8:Int))else(pa n args env).bind λd=>if¬d.2=0 then some (⟨0,0,0⟩,d.2)else(Fb d.1).bind λg=>if g=false then some (⟨0,0,0⟩,3)else some (d.1,0))=Cb n args env:=by
  unfold Cb
  cases ea n args env with
  |none=>rfl
  |some b=>
   grind[eb]
 simp_all
noncomputable def MI(e:List GNode) (env:GEnv) (i:Nat):GValue×Int:=((ba (3*i+3)).1 ⟨e,(Kh e e.length).1,env⟩ i).getD (⟨0,0,0⟩,0)
noncomputable def lG(e:List GNode) (env:GEnv) (i:Nat):List GValue:=(Kaa (Fi e i)).map λt=>(MI e env (Fw e i t)).1
noncomputable def ZS(e:List GNode) (env:GEnv) (i:Nat) (t:Nat):Option (GValue×Int):=if¬(MI e env (Fw e i t)).2=0 then some (⟨0,0,0⟩,(MI e env (Fw e i t)).2)else none
noncomputable def evQ(e:List GNode) (env:GEnv) (i:Nat):GValue×Int:=
 if(Mc e i).Op=23\/(Mc e i).Op=24\/(Mc e i).Op=26 then
  HH (Mc e i).Op (Mc e i).N (MI e env (Fw e i 0)) (MI e env (Fw e i 1)) (if(Mc e i).Op=26 then MI e env (Fw e i 2)else(⟨0,0,0⟩,1))
 else match ff (ZS e env i) (Fi e i)with
  |some v=>v
  |none=>(Ff (Mc e i) (lG e env i) env).getD (⟨0,0,0⟩,0)
structure NodeP (e:List GNode) (env:GEnv) (i:Nat):Prop where
 p:∀n,3*i+3<=n->(ba n).1 ⟨e,(Kh e e.length).1,env⟩ i=some (MI e env i)
 ok:(MI e env i).2=0->Ga (MI e env i).1
 q:MI e env i=evQ e env i
variable {i:Nat}{e:List GNode}{env:GEnv}
theorem iR(h1:∀n,3*i+3<=n->(ba n).1 ⟨e,(Kh e e.length).1,env⟩ i=some (evQ e env i)) (h3:(evQ e env i).2=0->Ga (evQ e env i).1):NodeP e env i:=by
 have:MI e env i=evQ e env i:=by
  simp_all[MI]
 exact⟨by simp_all,by simp_all,this⟩
theorem args_p1(h:Wst e) (hi:i<e.length) {n:Nat}(b:∀j,j<i->(ba n).1 ⟨e,(Kh e e.length).1,env⟩ j=some (MI e env j)) :
 ca (Za ⟨e,(Kh e e.length).1,env⟩ (NH e i) (ba n).1) (Daa (Fi e i) ⟨0,0,0⟩,0)=some (Eb (lG e env i) (ff (ZS e env i) (Fi e i))):=by
 have hl:=tF e i;have h3:=SD e i;refine xb (step:=Za ⟨e,(Kh e e.length).1,env⟩ (NH e i) (ba n).1) (λt=>((lG e env i).take t++Daa (Fi e i-t) ⟨0,0,0⟩,(t:Int))) (ZS e env i) (Fi e i) (lG e env i) (λt ht _=>?_) (λ_=>?_) (by simp)
 .obtain⟨c,-⟩:=fv h hi ht;have a:(lG e env i).length=Fi e i:=by simp[lG]
  unfold Za;dsimp only;rw[if_pos (by omega),Jw ht,zaa,b _ c,zaa];unfold ZS;by_cases hc:(MI e env (Fw e i t)).2=0
  .rw[if_neg (Haa.2 hc),if_neg (Haa.2 hc)];rw[ya (by grind),zaa,aB (by grind),zaa,sa (by omega)];unfold aD;dsimp only;congr 3;rw[Iac _ _ (by grind),show t-((lG e env i).take t).length=0 by grind,show Fi e i-t=(Fi e i-(t+1))+1 by omega,jab,eac]
   grind[lG,tx]
  .rw[if_pos hc,if_pos hc];rfl
 .unfold Za;dsimp only;rw[if_neg (by omega),wac];have a:(lG e env i).length=Fi e i:=by simp[lG]
  grind
theorem node_g(h:Wst e) (x:∀i,i<e.length->¬((Mc e i).Op=23\/(Mc e i).Op=24\/(Mc e i).Op=26)->Tx (Ff (Mc e i) (lG e env i) env)):∀i,i<e.length->NodeP e env i:=by
 intro i
 induction i using dad with
 |_ i k=>
  intro hi;have hle:=h.le;have har:=h.ar hi;have hga:=SD e i;have f:=tF e i;by_cases b:(Mc e i).Op=23\/(Mc e i).Op=24\/(Mc e i).Op=26
  .have hk:2<=Fi e i/\((Mc e i).Op=26->Fi e i=3):=by
    unfold Fi;rcases b with h|h|h<;>rw[h]<;>decide
   have r:=(fv h hi (j:=0) (by omega)).1;have A:=(fv h hi (j:=1) (by omega)).1;have s:=k _ r (by omega);have l:=k _ A (by omega);have y:idx (NH e i) 0=some ((Fw e i 0:Nat):Int):=Jw (t:=0) (by omega);have z:idx (NH e i) 1=some ((Fw e i 1:Nat):Int):=Jw (t:=1) (by omega);have d:(Mc e i).Op=26->NodeP e env (Fw e i 2)/\Fw e i 2<i/\idx (NH e i) 2=some ((Fw e i 2:Nat):Int):=λa=>by
    grind[fv,Jw]
   have hq:evQ e env i=_:=if_pos b;refine iR (λn hn=>?_) (by
    rw[hq];exact SQ l.ok (by
     split
     .rename_i a;exact(d a).1.ok
     omega))
   rw[hq];obtain⟨n,rfl⟩:∃m,n=m+3:=⟨n-3,by omega⟩;show Ua (ba (n+2)).1 (ba (n+2)).2.1 (ba (n+2)).2.2 _ _=_;unfold Ua;dsimp only;rw[ya hi,zaa,bm hi,Mr h hi,zaa,ZV,decide_eq_true b,if_pos rfl,oi];show Sc (ba (n+1)).1 (ba (n+1)).2.1 (ba (n+1)).2.2 _ _ _=_;unfold Sc HH;by_cases c:(Mc e i).N=0
   case neg=>simp_all
   rw[if_neg (Haa.2 c),if_neg (Haa.2 c),y,zaa];have g:∀j,j<i->NodeP e env j->(ba (n+1)).2.2 ⟨e,(Kh e e.length).1,env⟩ (j:Int)=some (ir (MI e env j)):=λj hj hb=>(show Mb (ba n).1 (ba n).2.1 (ba n).2.2 _ _=_ from M3 (hb.p n (by omega)));rw[g _ r s,zaa];by_cases hc:(ir (MI e env (Fw e i 0))).2=0
   case neg=>simp_all
   rw[if_neg (Haa.2 hc),if_neg (Haa.2 hc)];by_cases a:(Mc e i).Op=26
   .obtain⟨u,c2,w⟩:=d a;rw[if_pos a,if_pos a,zaa,if_pos a,if_pos a];by_cases o:(ir (MI e env (Fw e i 0))).1.N=1
    .rw[if_pos (by simp_all),if_pos o,z,zaa,oi];exact l.p (n+1) (by omega)
    .rw[if_neg (by simp_all),if_neg o,w,zaa,oi];exact u.p (n+1) (by omega)
   grind
  .obtain⟨q,q1,q3⟩:=x i hi b;have hff:∀v,ff (ZS e env i) (Fi e i)=some v->v.2≠0:=by
    grind[ZS,Pa]
   have hq:evQ e env i=(match ff (ZS e env i) (Fi e i)with|some v=>v|none=>q):=by
    simp_all[evQ]
   refine iR (λn hn=>?_) ?_
   .rw[hq];obtain⟨n,rfl⟩:∃m,n=m+1:=⟨n-1,by omega⟩;show Ua (ba n).1 (ba n).2.1 (ba n).2.2 _ _=_;unfold Ua;dsimp only;rw[ya hi,zaa,bm hi,Mr h hi,zaa,ZV,decide_eq_false b,if_neg (by simp),f,Zy (by omega) (by omega),zaa,args_p1 h hi (λj hj=>(k j hj (by omega)).p n (by omega)),zaa]
    grind[uK,mU]
   grind
theorem Eval_g(h:Wst e) (hb:NodeP e env (e.length-1)):Wj e env=some (MI e env (e.length-1))/\((MI e env (e.length-1)).2=0->Ga (MI e env (e.length-1)).1):=by
 have hf:1000000<=tf:=by grind[tf]
 have hp:=h.pos;have hle:=h.le;unfold Wj Ks;rw[Gq];simp only[zaa];rw[vE h];have e1:aa .i64 ((e.length:Int)-1)=((e.length-1:Nat):Int):=by grind[wid]
 unfold ti;rw[e1];dsimp only;rw[if_neg (by decide),hb.p _ (by omega)];exact⟨rfl,hb.ok⟩
noncomputable def OD(t0 t1:List Int) (i:Nat):Option Int:=
 match t0[i]?,t1[i]? with
 |some p,some q=>if p < -1\/(i:Int)<=p then some 9 else if q<0\/9<q then some 3 else none
 |_,_=>none
noncomputable def YF(t0 t1:List Int):Int:=
 if¬(t0.length:Int)=(t1.length:Int)then 2 else if 8<(t0.length:Int)then 4 else
 match ff (OD t0 t1) t0.length with|some v=>v|none=>0
theorem kR{a b:Prop} [Decidable a] [Decidable b] :(Aaa (α:=Bool) (if¬a then some (decide b)else some true) k)=k (decide (a\/b)):=by
 grind
theorem oD(t0 t1:List Int):xl t0 t1=some (YF t0 t1):=by
 unfold xl YF;by_cases hl:(t0.length:Int)=(t1.length:Int)
 case neg=>simp_all
 rw[if_neg (Haa.2 hl),if_neg (Haa.2 hl)];by_cases a:8<(t0.length:Int)
 .simp_all
 rw[if_neg a,if_neg a];have e1:ca (Hh t0 t1) 0=some (Eb () (ff (OD t0 t1) t0.length)):=
  xb (λi=>(i:Int)) _ t0.length () (λi hi _=>by
   unfold Hh OD;rw[if_pos (by omega),ya hi,Baa hi,Baa (l:=t1) (by omega)];dsimp only;rw[zaa,kR,ya (l:=t1) (by omega),zaa,kR,sa (by omega)]
   grind[aD]) (λ_=>by grind[Hh])
 rw[e1];cases ff (OD t0 t1) t0.length<;>rfl
theorem UG(t0 t1:List Int):Yp t0 t1=some (YF t0 t1):=by
 unfold Yp YF;by_cases hl:(t0.length:Int)=(t1.length:Int)
 case neg=>simp_all
 rw[if_neg (Haa.2 hl),if_neg (Haa.2 hl)];by_cases a:8<(t0.length:Int)
 .simp_all
 rw[if_neg a,if_neg a];have e2:ca (Qk t0 t1) 0=some (Eb () (ff (OD t0 t1) t0.length)):=
  xb (λi=>(i:Int)) _ t0.length () (λi hi _=>by
   unfold Qk OD;rw[if_pos (by omega),ya hi,Baa hi,Baa (l:=t1) (by omega)];dsimp only;rw[zaa,kR,ya (l:=t1) (by omega),zaa,kR,sa (by omega)]
   grind[aD]) (λ_=>by grind[Qk])
 rw[e2];cases ff (OD t0 t1) t0.length<;>rfl
structure TreeOk (t0 t1:List Int):Prop where
 len:t0.length=t1.length
 le:t0.length<=8
 par:∀i (h:i<t0.length),-1<=t0[i]/\t0[i]<(i:Int)
variable {t1 t0:List Int}
theorem NN(h:YF t0 t1=0):TreeOk t0 t1:=by
 unfold YF at h;by_cases hl:(t0.length:Int)=(t1.length:Int)
 case neg=>omega
 rw[if_neg (Haa.2 hl)]at h;by_cases a:8<(t0.length:Int)
 .omega
 rw[if_neg a]at h;refine⟨by omega,by omega,λi hi=>?_⟩;have hn:ff (OD t0 t1) t0.length=none:=by
  grind[OD,Pa]
 grind[OD,ab]
def HX(t0:List Int) (at_:Int):Nat->List Int
 |0=>[]
 |n+1=>if t0[n]?=some at_ then HX t0 at_ n++[(n:Int)]else HX t0 at_ n
def vD(t0:List Int) (at_:Int):List Int:=HX t0 at_ t0.length
theorem KE(t0:List Int) (a:Int):∀n,(HX t0 a n).length<=n
 |0=>by simp[HX]
 |n+1=>by
  have:=KE t0 a n
  grind[HX]
theorem ME{t0:List Int}{a x:Int}:∀{n:Nat},x∈HX t0 a n->∃k:Nat,x=(k:Int)/\k<n/\t0[k]?=some a
 |0,h=>by grind[HX]
 |n+1,h=>by
  unfold HX at h;split at h
  .rename_i hn;rcases tab.1 h with h|h
   .obtain⟨k,a1,a2,a3⟩:=ME h;grind
   grind
  .obtain⟨k,a1,a2,a3⟩:=ME h;grind
theorem mD(hl:t0.length<=1048576) (a:Int):ql t0 a=some (vD t0 a):=by
 have step:ca (Fh t0 a) (([]:List Int),0)=some (.inl (vD t0 a)):=by
  refine kf (λi=>(HX t0 a i,(i:Int))) t0.length _ (λi hi=>?_) ?_ rfl
  .have h1:=KE t0 a i;unfold Fh;dsimp only;rw[if_pos (by omega),ya hi,zaa,sa (by omega)];simp only[HX,Baa hi,dab];by_cases hc:t0[i]=a
   .rw[if_pos hc,if_pos hc,uf (by grind)];rfl
   simp_all
  grind[Fh,vD]
 grind[ql]
theorem TG(hl:t0.length<=1048576) (a:Int):Xp t0 a=some (vD t0 a):=by
 have step:ca (Pk t0 a) (([]:List Int),0)=some (.inl (vD t0 a)):=by
  refine kf (λi=>(HX t0 a i,(i:Int))) t0.length _ (λi hi=>?_) ?_ rfl
  .have h1:=KE t0 a i;unfold Pk;dsimp only;rw[if_pos (by omega),ya hi,zaa,sa (by omega)];simp only[HX,Baa hi,dab];by_cases hc:t0[i]=a
   .rw[if_pos hc,if_pos hc,uf (by grind)];rfl
   simp_all
  grind[Pk,vD]
 grind[Xp]
def pri(t1:List Int) (x:Int):Int:=(t1[x.toNat]?).getD 0
def oB(t1:List Int) (out:Int->Int) (acc:List Int) (x:Int):List Int:=
 if out x = -1 then acc else
 match acc with
 |[]=>[x]
 |y::l=>if pri t1 y<pri t1 x then [x]else if pri t1 x=pri t1 y then y::l++[x]else y::l
def cx(t1:List Int) (out:Int->Int) (l:List Int):List Int:=l.foldl (oB t1 out) []
theorem mz:∀x∈cx t1 out l,x∈l:=by
 have:∀(l acc:List Int),∀x∈l.foldl (oB t1 out) acc,x∈acc\/x∈l:=by
  intro l
  induction l with
  |nil=>simp
  |cons y l a=>
   intro acc x hx;rcases a _ x hx with h|h
   .unfold oB at h
    grind
   simp_all
 intro x hx;rcases this l [] x hx with h|h
 all_goals simp_all
theorem yX(t1:List Int) (out:Int->Int) (l:List Int):(cx t1 out l).length<=l.length:=by
 have:∀(l acc:List Int),(l.foldl (oB t1 out) acc).length<=acc.length+l.length:=by
  intro l
  induction l with
  |nil=>simp
  |cons y l a=>
   intro acc;refine Bab (a _) ?_;have:(oB t1 out acc y).length<=acc.length+1:=by
    unfold oB
    grind
   grind
 have h:=this l [];rw[sab,Qab]at h;exact h
theorem dT:cx t1 out (l++[x])=oB t1 out (cx t1 out l) x:=by simp[cx]
theorem MP{o a:Int->Int}(h:∀x∈l,o x=a x):cx t1 o l=cx t1 a l:=by
 have:∀(l acc:List Int),(∀x∈l,o x=a x)->l.foldl (oB t1 o) acc=l.foldl (oB t1 a) acc:=by
  intro l
  induction l with
  |nil=>simp
  |cons y l ih=>
   simp_all[oB]
 exact this l [] h
theorem DM(hl:l.length<=100) (hm:∀x∈l,0<=x/\x<(t1.length:Int)) {g:Int->Option Int}(C:∀x∈l,g x=some (out x)) {mt:List Int->Option (List Int)}(j:∀q,mt q=some [])
 (D:∀a b,step (a,b)=if b<(l.length:Int)then
  Aaa (α:=(List Int)) (
   (idx l b).bind λh=>(g h).bind λE=>if E=(-1)then some a else
   Aaa (α:=(List Int)) (Aaa (α:=Bool) (if 0<(a.length:Int)then(idx t1 h).bind λF=>(idx a 0).bind λp=>(idx t1 p).bind λs=>some (decide (s<F))else some false) λm=>if m=true then mt a else some a) λc=>
   Aaa (α:=Bool) (if¬(c.length:Int)=0 then(idx t1 h).bind λt=>(idx c 0).bind λu=>(idx t1 u).bind λv=>some (t==v)else some true) λn=>
   if n=true then(app 8 c ([h])).bind λw=>some w else some c) λo=>some (Ex.go (o,(aa .i64 (b+1))))
  else some (Ex.brk a)):ca step (([]:List Int),0)=some (.inl (cx t1 out l)):=by
 refine kf (λi=>(cx t1 out (l.take i),(i:Int))) l.length _ (λi hi=>?_) ?_ rfl
 .have B:=yX t1 out (l.take i);have h2:(l.take i).length<=l.length:=by grind
  have d:∀y∈cx t1 out (l.take i),0<=y/\y<(t1.length:Int):=λy z=>hm y (uac (mz y z));rw[D,if_pos (by omega),ya hi,zaa,C _ (Iaa hi),zaa,sa (by omega),Xaa,Baa hi];have hx:=hm _ (Iaa hi);simp only[Option.toList_some,dT];generalize l[i]=x at hx⊢;have k:idx t1 x=some (pri t1 x):=by grind[pri,bh]
  generalize cx t1 out (l.take i)=acc at B d⊢;unfold oB;by_cases ho:out x = -1
  .simp_all
  rw[if_neg ho,if_neg ho];rcases acc with _|⟨y,r⟩
  .simp_all[uf]
  .have z:=d y (by simp);have f:idx t1 y=some (pri t1 y):=by grind[pri,bh]
   have A:∀(q:List Int),idx (y::q) 0=some y:=λq=>by simp[idx]
   dsimp only;rw[if_pos (by simp),k,A,zaa,zaa,f,zaa,zaa];by_cases e:pri t1 y<pri t1 x
   .rw[if_pos (by simp_all),j,zaa,if_neg (by simp),zaa,if_pos rfl,uf (by simp),if_pos e];rfl
   .rw[if_neg (by simp_all),zaa,if_pos (by grind),zaa,A,zaa,f,zaa,zaa,if_neg e];by_cases he:pri t1 x=pri t1 y
    .rw[if_pos (by simp_all),if_pos he,uf (by grind)];rfl
    simp_all
 simp_all
def uP(t1:List Int) (out:Int->Int) (l:List Int):Int:=
 match cx t1 out l with
 |[]=>-1
 |[x]=>out x
 |_=>-2
theorem VY{o a:Int->Int}(h:∀x∈l,o x=a x):uP t1 o l=uP t1 a l:=by
 grind[uP,MP,mz]
def oc(t0 t1:List Int) (t2:List Bool):Nat->Int->Int
 |0,_=>-1
 |k+1,i=>if uP t1 (oc t0 t1 t2 k) (vD t0 i) = -1/\(t2[i.toNat]?).getD false=true then i else uP t1 (oc t0 t1 t2 k) (vD t0 i)
theorem nJ(h:TreeOk t0 t1) {i:Int}(hx:x∈vD t0 i):i<x/\0<=x/\x<(t0.length:Int):=by
 obtain⟨k,rfl,hk,hp⟩:=ME hx;have:=h.par k hk
 simp_all
theorem TY(h:TreeOk t0 t1):∀(d:Nat) (i:Int),0<=i->(t0.length:Int)-i<=d->∀k a:Nat,(t0.length:Int)-i<=k->(t0.length:Int)-i<=a->i<t0.length->oc t0 t1 t2 k i=oc t0 t1 t2 a i:=by
 intro d
 induction d with
 |zero=>omega
 |succ d ih=>
  intro i h0 hd k a hk hk' hi;obtain⟨k,rfl⟩:∃m,k=m+1:=⟨k-1,by omega⟩;obtain⟨a,rfl⟩:∃m,a=m+1:=⟨a-1,by omega⟩;have:uP t1 (oc t0 t1 t2 k) (vD t0 i)=uP t1 (oc t0 t1 t2 a) (vD t0 i):=VY λx hx=>by
   have:=nJ h hx
   grind
  grind[oc]
def O(t0 t1:List Int) (t2:List Bool) (i:Int):Int:=oc t0 t1 t2 t0.length i
theorem O_eq(h:TreeOk t0 t1) {i:Int}(a:0<=i) (b:i<t0.length):O t0 t1 t2 i=if uP t1 (O t0 t1 t2) (vD t0 i) = -1/\(t2[i.toNat]?).getD false=true then i else uP t1 (O t0 t1 t2) (vD t0 i):=by
 unfold O;rw[TY h t0.length i a (by omega) t0.length (t0.length+1) (by omega) (by omega) b];rfl
noncomputable def dP(t0 t1:List Int) (t2:List Bool):Int:=if YF t0 t1=0/\t2.length=t0.length then uP t1 (O t0 t1 t2) (vD t0 (-1))else -1
theorem rF{out:List Int}(h:TreeOk t0 t1) {f:Int->Int}{i:Int}(ho:∀x∈vD t0 i,idx out x=some (f x)):Ob ⟨t0,t1,out⟩ i=some (uP t1 f (vD t0 i)):=by
 have hle:=h.le;have hlen:=h.len;have hcl:=KE t0 i t0.length;unfold Ob Ln;dsimp only;rw[mD (by omega) i,zaa];have hb:=DM (t1:=t1) (out:=f) (l:=vD t0 i) (by grind[vD]) (λx hx=>by have:=nJ h hx;omega) (step:=Rj ⟨t0,t1,out⟩ (vD t0 i)) (g:=λx=>idx out x) ho (mt:=λq=>(ju q 0).bind λc=>some c) (λq=>by rw[show(0:Int)=((0:Nat):Int)from rfl,Hy (by omega)];rfl) (λa b=>by grind[Rj]);rw[hb];simp only[zaa];unfold uP;have d:=mz (t1:=t1) (out:=f) (l:=vD t0 i);generalize cx t1 f (vD t0 i)=r at d⊢;rcases r with _|⟨x,_|⟨y,q⟩⟩
 all_goals grind[idx]
theorem nU(h:TreeOk t0 t1) (h2:t2.length=t0.length):Al t0 t1 t2=some ((Kaa t0.length).map λ(k:Nat)=>O t0 t1 t2 (k:Int)):=by
 have hle:=h.le;unfold Al;rw[Zy (by omega) (by omega),zaa,wid (by omega) (by omega)];have hl:ca (Ih t0 t1 t2) (Daa t0.length 0,(t0.length:Int)-1)=some (.inl ((Kaa t0.length).map λ(k:Nat)=>O t0 t1 t2 (k:Int))):=by
  refine kf (λt=>((Kaa t0.length).map (λ(k:Nat)=>if k<t0.length-t then 0 else O t0 t1 t2 (k:Int)),(t0.length:Int)-1-t)) t0.length _ (λt ht=>?_) ?_ ?_
  .obtain⟨j,hj⟩:∃j,t0.length=t+j+1:=⟨t0.length-t-1,by omega⟩;have f:(t0.length:Int)-1-t=(j:Int):=by omega
   have b:t0.length-t=j+1:=by omega
   have c:t0.length-(t+1)=j:=by omega
   skip
   rw[f,b,c];unfold Ih;dsimp only;rw[if_pos (by omega)];have d:Ob ⟨t0,t1,(Kaa t0.length).map (λ(k:Nat)=>if k<j+1 then 0 else O t0 t1 t2 (k:Int))⟩ (j:Int)=some (uP t1 (O t0 t1 t2) (vD t0 (j:Int))):=by
    refine rF h λx hx=>?_;have:=nJ h hx;obtain⟨k,rfl⟩:=Saa this.2.1;rw[ya (by grind)]
    grind
   rw[d,zaa,ya (by grind),zaa,aB (by grind),zaa];rw[ya (by grind)];simp only[List.getElem_set_self,zaa];have e:=O_eq (t2:=t2) h (i:=(j:Int)) (by omega) (by omega);rw[Xab,Baa (by omega)]at e;simp only[Option.getD_some]at e;have a:∀v,v=O t0 t1 t2 (j:Int)->((Kaa t0.length).map (λ(k:Nat)=>if k<j+1 then 0 else O t0 t1 t2 (k:Int))).set j v=(Kaa t0.length).map (λ(k:Nat)=>if k<j then 0 else O t0 t1 t2 (k:Int)):=by
    intro v hv;apply iac
    all_goals grind
   have hw:aa .i64 ((j:Int)-1)=(t0.length:Int)-1-((t+1:Nat):Int):=by grind[wid]
   by_cases hm:uP t1 (O t0 t1 t2) (vD t0 (j:Int)) = -1
   .rw[if_pos hm,ya (l:=t2) (by omega),zaa,zaa];by_cases ha:t2[j]'(by omega)=true
    .rw[if_pos ha,aB (by grind),zaa,zaa,List.set_set,a _ (by simp_all),hw]
    simp_all
   simp_all
  .grind[Ih]
  ·((try dsimp only))
   rw[Nat.sub_zero];congr 1
   .apply iac
    all_goals simp_all
   .simp
 simp_all
theorem iu(t0 t1:List Int) (t2:List Bool):Ao t0 t1 t2=some (dP t0 t1 t2):=by
 unfold Ao dP;rw[oD t0 t1,zaa];by_cases hv:YF t0 t1=0
 case neg=>simp_all
 rw[if_pos hv,zaa];by_cases h2:t2.length=t0.length
 case neg=>grind
 have h:=NN hv;rw[if_neg (by simp_all),if_pos ⟨hv,h2⟩,nU h h2,zaa,rF h (f:=O t0 t1 t2) λx hx=>by
  have:=nJ h hx;obtain⟨k,rfl⟩:=Saa this.2.1
  grind[ya]]
 rfl
theorem refOf(h:TreeOk t0 t1) {n:Nat}{i:Int}(ho:∀x∈vD t0 i,(ja n).2.2 t0 t1 t2 x=some (O t0 t1 t2 x)):(ja (n+1)).2.1 t0 t1 t2 i=some (cx t1 (O t0 t1 t2) (vD t0 i)):=by
 have hle:=h.le;have hlen:=h.len;have hcl:=KE t0 i t0.length;show Xt (ja n).1 (ja n).2.1 (ja n).2.2 _ _ _ _=_;unfold Xt;rw[TG (by omega) i,zaa];have hb:=DM (t1:=t1) (out:=O t0 t1 t2) (l:=vD t0 i) (by grind[vD]) (λx hx=>by have:=nJ h hx;omega) (step:=rv t0 t1 t2 (vD t0 i) (ja n).2.2) (g:=λx=>(ja n).2.2 t0 t1 t2 x) ho (mt:=λq=>some []) (λq=>rfl) (λa b=>by grind[rv])
 simp_all
theorem refCh(h:TreeOk t0 t1) {n:Nat}{i:Int}(ho:∀x∈vD t0 i,∀m,n<=m->(ja m).2.2 t0 t1 t2 x=some (O t0 t1 t2 x)):(ja (n+2)).1 t0 t1 t2 i=some (uP t1 (O t0 t1 t2) (vD t0 i)):=by
 show Mm (ja (n+1)).1 (ja (n+1)).2.1 (ja (n+1)).2.2 _ _ _ _=_;unfold Mm;rw[refOf h λx hx=>ho x hx n (Paa _),zaa];unfold uP;have a:=mz (t1:=t1) (out:=O t0 t1 t2) (l:=vD t0 i);generalize cx t1 (O t0 t1 t2) (vD t0 i)=r at a⊢;rcases r with _|⟨x,_|⟨y,q⟩⟩
 all_goals grind[idx]
theorem refOut(h:TreeOk t0 t1) (h2:t2.length=t0.length):∀(d:Nat) (i:Int),0<=i->i<t0.length->(t0.length:Int)-i<=d->∀n,3*d<=n->(ja n).2.2 t0 t1 t2 i=some (O t0 t1 t2 i):=by
 intro d
 induction d with
 |zero=>omega
 |succ d ih=>
  intro i a b hd n hn;obtain⟨n,rfl⟩:∃m,n=m+3:=⟨n-3,by omega⟩;show ko (ja (n+2)).1 (ja (n+2)).2.1 (ja (n+2)).2.2 _ _ _ _=_;unfold ko;rw[refCh h λx hx m hm=>by
   have:=nJ h hx
   grind]
  rw[zaa,O_eq h a b];obtain⟨j,rfl⟩:=Saa a;rw[ya (by omega),Xab,Baa (by omega)]
  grind
theorem NK(t0 t1:List Int) (t2:List Bool):Wt t0 t1 t2=some (dP t0 t1 t2):=by
 have hf:1000000<=tf:=by grind[tf]
 unfold Wt dP;rw[UG t0 t1,zaa];by_cases hv:YF t0 t1=0
 case neg=>simp_all
 rw[if_pos hv,zaa];by_cases h2:t2.length=t0.length
 case neg=>grind
 have h:=NN hv;rw[if_neg (by simp_all),if_pos ⟨hv,h2⟩];unfold Yt;obtain⟨n,hn⟩:∃n,tf=n+2:=⟨tf-2,by omega⟩;rw[hn,refCh h λx hx m hm=>by
  have:=nJ h hx;have:=h.le;exact refOut h h2 t0.length x (by omega) (by omega) (by omega) m (by omega)]
 rfl
section
variable {rules:List GRule} {q:GRule->Bool}
def ZH(rules:List GRule) (q:GRule->Bool) (j:Nat):Int:=
 match rules[j]? with
 |none=>-1
 |some r=>if 0<=r.ag/\r.ag<(j:Int)then((Se rules q j).2.2[r.ag.toNat]?).getD 0 else -1
def nv(rules:List GRule) (q:GRule->Bool) (j:Nat):Int:=
 match rules[j]? with
 |none=>0
 |some r=>if q r=true then((Se rules q j).1.length:Int)else ZH rules q j
theorem Wz(hi:i<rules.length):Se rules q (i+1)=if q rules[i]=true then((Se rules q i).1++[(i:Int)],(Se rules q i).2.1++[ZH rules q i],((Se rules q i).2.2.set i (ZH rules q i)).set i ((Se rules q i).1.length:Int))else((Se rules q i).1,(Se rules q i).2.1,(Se rules q i).2.2.set i (ZH rules q i)):=by
 grind[Se,ZH]
theorem MH:∀i,i<=rules.length->∀j,j<i->(Se rules q i).2.2[j]?=some (nv rules q j)
 |0,_,j,h=>by omega
 |i+1,hi,j,hj=>by
  have hl:=(fu (rules:=rules) (q:=q) i).1;have ih:=MH i (by omega)
  grind[nv,Wz]
theorem anc_eq(hj:j<rules.length):ZH rules q j=if 0<=rules[j].ag/\rules[j].ag<(j:Int)then nv rules q rules[j].ag.toNat else -1:=by
 grind[ZH,MH]
theorem QW:∀i,i<=rules.length->∀j (hj:j<i) (h:j<rules.length),q rules[j]=true->(Se rules q i).1[(Se rules q j).1.length]?=some (j:Int)
 |0,_,j,hj,_,_=>by omega
 |i+1,hi,j,hj,h,hq=>by
  rw[Wz (by omega)];rcases Gab j i with a|hge
  .have ih:=QW i (by omega) j a h hq
   grind
  grind
theorem FF:∀i,i<=rules.length->∀x∈(Se rules q i).1,∃(j:Nat) (h:j<rules.length),x=(j:Int)/\j<i/\q rules[j]=true
 |0,_,x,hx=>by grind[Se]
 |i+1,hi,x,hx=>by
  rw[Wz (by omega)]at hx;split at hx
  .rename_i hq;rcases tab.1 hx with h|h
   .obtain⟨j,a,b,c,d⟩:=FF i (by omega) x h;grind
   grind
  .obtain⟨j,a,b,c,d⟩:=FF i (by omega) x hx;grind
theorem OW:∀i,i<=rules.length->(Se rules q i).1.Pairwise (·<·)
 |0,_=>by simp[Se]
 |i+1,hi=>by
  have d:=OW i (by omega);rw[Wz (by omega)];split
  .rw[List.pairwise_append];refine⟨d,by simp,λa ha b hb=>?_⟩;obtain⟨j,_,rfl,c,_⟩:=FF i (by omega) a ha
   simp_all
  omega
theorem PW:∀i,i<=rules.length->(Se rules q i).2.1=(Se rules q i).1.map λx=>ZH rules q x.toNat
 |0,_=>by simp[Se]
 |i+1,hi=>by
  have ih:=PW i (by omega)
  grind[Wz]
end
theorem index_s(hl:l.length<=1048576) (x:Int):(∀k:Nat,l[k]?=some x->l.Pairwise (·<·)->Ts l x=some (k:Int))/\(x∉l->Ts l x=some (-1)):=by
 have b:ca (Zp l x) 0=some (Eb () (ff (λi=>if l[i]?=some x then some (i:Int)else none) l.length)):=
  xb (λi=>(i:Int)) _ l.length () (λi hi _=>by
   unfold Zp;rw[if_pos (by omega),ya hi,Baa hi,zaa,sa (by omega)]
   grind[aD]) (λ_=>by grind[Zp])
 unfold Ts;rw[b];constructor
 .intro k hk hp;have a:=(List.getElem?_eq_some_iff.1 hk).1;have:ff (λi=>if l[i]?=some x then some (i:Int)else none) l.length=some (k:Int):=by
   refine Pa.2 ⟨k,a,by simp_all,λj hj=>?_⟩;rw[if_neg]
   grind[Vab]
  rw[this];rfl
 .intro hx;have:ff (λi=>if l[i]?=some x then some (i:Int)else none) l.length=none:=by
   refine ab.2 λi hi=>?_
   grind
  rw[this];rfl
theorem nR(hs:s.f.length<=1048576) {q:GRule->Bool}:∀(j:Nat) (hj:j<s.f.length),∃y,ca (Xj s (Se s.f q s.f.length).1) ((j:Int),s.f[j].ag)=some y/\(match y with|.inr v=>v|.inl _=>-1)=ZH s.f q j:=by
 intro j
 induction j using dad with
 |_ j d=>
  intro hj;have hrl:=(fu (rules:=s.f) (q:=q) s.f.length).2.1;rw[anc_eq hj];generalize hP:s.f[j].ag=P;by_cases hc:0<=P/\P<(j:Int)
  .rw[if_pos hc];obtain⟨p,rfl⟩:=Saa hc.1;have c:p<j:=by omega
   have a:=index_s (l:=(Se s.f q s.f.length).1) (by omega) (p:Int);rw[Xab];unfold nv;rw[Baa (show p<s.f.length by omega)];dsimp only;by_cases hq:q (s.f[p]'(by omega))=true
   .rw[if_pos hq];have b:=QW s.f.length (Paa _) p (by omega) (by omega) hq;have hi:=a.1 _ b (OW s.f.length (Paa _));refine⟨.inr ((Se s.f q p).1.length:Int),Ms ?_,rfl⟩
    simp_all[Xj]
   .rw[if_neg hq];have hi:=a.2 (λhm=>by
     obtain⟨k,hk,h1,h2,h3⟩:=FF s.f.length (Paa _) _ hm
     grind)
    obtain⟨y,y1,e⟩:=d p c (by omega);refine⟨y,?_,e⟩;rw[yg (s':=((p:Int),(s.f[p]'(by omega)).ag))]
    .omega
    .unfold Xj;dsimp only;rw[if_pos hc.1,zaa,if_pos (by simp_all),hi,zaa,if_neg (by omega),ya (by omega),zaa]
  .rw[if_neg hc];refine⟨.inl (),vc ?_,rfl⟩
   grind[Xj]
theorem QK(a:s.f.length<=1048576) {q:GRule->Bool}(hj:j<s.f.length):au s (Se s.f q s.f.length).1 (j:Int)=some (ZH s.f q j):=by
 obtain⟨y,y1,y2⟩:=nR a (q:=q) j hj
 grind[au,ya]
def zA(s:GScope) (x:Int):Int:=((s.f[x.toNat]?).map (·.ao)).getD 0
def yL(s:GScope) (d date:Int):List Int×List Int×List Int:=
 ((Se s.f (DE d date) s.f.length).1,(Se s.f (DE d date) s.f.length).2.1,(Se s.f (DE d date) s.f.length).1.map (zA s))
theorem Yr(a:s.f.length<=1048576) (d date:Int):om s d date=some (yL s d date):=by
 unfold om yL;rw[XA a (q:=DE d date) (λr=>by
  grind[Uf,DE,We]),zaa]
 have hl:=(fu (rules:=s.f) (q:=DE d date) s.f.length).2.1;have hm:=EF (rules:=s.f) (q:=DE d date) s.f.length;generalize (Se s.f (DE d date) s.f.length).2.1=pp;generalize (Se s.f (DE d date) s.f.length).1=L at hl hm;have h1:ca (si s (L,pp)) (([]:List Int),0)=some (.inl (L.map (zA s))):=by
  refine kf (λi=>((L.take i).map (zA s),(i:Int))) L.length _ (λi hi=>?_) ?_ rfl
  .have hx:=hm _ (Iaa hi);have h2:(L.take i).length<=L.length:=by grind
   unfold si;dsimp only;rw[if_pos (by omega),ya hi,zaa,bh hx.1 hx.2.1,zaa,uf (by grind),zaa,sa (by omega),Xaa,Baa hi]
   grind[zA]
  simp_all[si]
 simp_all
theorem PK(b:s.f.length<=1048576) (d date:Int):Zt s d date=some (yL s d date):=by
 unfold Zt yL;rw[AI b,zaa];have hl:=(fu (rules:=s.f) (q:=DE d date) s.f.length).2.1;have hm:=FF (rules:=s.f) (q:=DE d date) s.f.length (Paa _);have a:=λ{j:Nat} (hj:j<s.f.length)=>QK b (q:=DE d date) hj;rw[PW s.f.length (Paa _)];generalize (Se s.f (DE d date) s.f.length).1=L at hl hm a;have h1:ca (mo s L) (([]:List Int),([]:List Int),0)=some (.inl (L.map (λx=>ZH s.f (DE d date) x.toNat),L.map (zA s))):=by
  refine kf (λi=>((L.take i).map (λx=>ZH s.f (DE d date) x.toNat),(L.take i).map (zA s),(i:Int))) L.length _ (λi hi=>?_) ?_ rfl
  .obtain⟨j,hj,e,-⟩:=hm _ (Iaa hi);have h2:(L.take i).length<=L.length:=by grind
   unfold mo;dsimp only;rw[if_pos (by omega),ya hi,zaa,e,a hj,zaa,uf (by grind),zaa,ya hj,zaa,uf (by grind),zaa,sa (by omega),Xaa,Baa hi]
   simp_all[zA]
  simp_all[mo]
 simp_all
end Go.Proofs.Dev
