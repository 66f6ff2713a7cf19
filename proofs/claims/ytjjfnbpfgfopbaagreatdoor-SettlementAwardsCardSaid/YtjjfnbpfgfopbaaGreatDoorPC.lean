/-
  The functions as plain partial functions, and plain lemmas about them: no condition.
-/
import Derived.Test.YtjjfnbpfgfopbaaGreatDoorPB
open Bool renaming false_eq_true->Eaa,true_and->tac
open Classical renaming not_not->saa
open Decidable renaming not_not->Gac
open Int renaming eq_ofNat_of_zero_le->Eab,natAbs_mul->rae,natCast_one->Qae,reduceBEq->Baa,reduceEq->uaa,tdiv->Zaa,tdiv_eq_ediv_of_nonneg->Lad,tmod->Dab,toNat_natCast->Hac
open List renaming append_assoc->Oaa,drop_eq_getElem_cons->mab,ext_getElem->fac,filter_append->Oab,filter_eq_nil_iff->Uac,getElem?_append_right->tab,getElem?_eq_getElem->naa,getElem_mem->taa,getElem_of_mem->waa,length_append->Faa,length_cons->qaa,length_filter_le->cab,length_nil->Aaa,length_replicate->Zab,length_singleton->Fab,mem_of_mem_take->Mab,nil_append->Qaa,pairwise_iff_getElem->Iab,range->xaa,replicate->oaa,set_append_right->zad,take_add_one->Raa
open Nat renaming add_sub_cancel->Dae,div_le_self->tad,le_refl->Haa,le_trans->Qab,mod_lt->Lac,mul_le_mul->Tac,sub_self->Dac,zero_add->Jab
open Option renaming bind->laa,bind_some->kaa
open Option.some renaming injEq->Vaa
set_option linter.all false
set_option maxRecDepth 10000
set_option maxHeartbeats 1000000
namespace Go.Proofs.Dev
open Go Go.Tm
variable {a b v:GValue}{α β:Type}{step:List Int×Int->Option (Ex (List Int×Int) (List Int) Unit)}{x0:List GDateRange}{q:List Int}{y j mode op N:Int}{d r z len:Nat}{c:Prop}{o:Option Bool}{args:List GValue}{out:Int->Int}{t2:List Bool}
def neB(r:GDateRange):Bool:=decide (0<=r.From)&&(decide (r.To<=109573)&&decide (r.From<r.To))
theorem Rv(r:GDateRange):gk r=some (neB r):=by
 grind[gk,Wc,neB]
theorem Bt(r:GDateRange):Gc r=some (neB r):=by
 grind[Gc,Wc,neB]
def ends:List GDateRange->List Int
 |[]=>[]
 |r::l=>(if neB r=true then [r.From,r.To]else [])++ends l
theorem mZ{a b:List GDateRange}:ends (a++b)=ends a++ends b:=by
 induction a with
 |nil=>rfl
 |cons x l ih=>grind[ends]
theorem Vr:∀l:List GDateRange,(ends l).length<=2*l.length
 |[]=>by simp[ends]
 |r::l=>by
  have:=Vr l
  grind[ends]
theorem Bc{l:List α}{i:Nat}(h:i<l.length):l.take (i+1)=l.take i++[l[i]]:=by
 simp
theorem sG{n:Nat}{l:List α}(hn:n=l.length) {step:List β×Int->Option (Ex (List β×Int) (List β) Unit)}(g:List α->List β) (x0:List β)
 (a:∀i (h:i<l.length),step (x0++g (l.take i),(i:Int))=some (.go (x0++g (l.take (i+1)),((i+1:Nat):Int)))) (hend:∀x,step (x,(n:Int))=some (.brk x)) (h0:g []=[]):ea step (x0,0)=some (.inl (x0++g l)):=by
 subst hn;refine Od (λi=>(x0++g (l.take i),(i:Int))) l.length _ (λi hi=>a i hi) ?_ (by grind)
 simp_all
theorem RL{l:List GDateRange}(hl:l.length<=1048576) (a:step=De l\/step=td l):ea step ([],0)=some (.inl (ends l)):=by
 have h:=sG (step:=step) (l:=l) rfl ends [] (λi hi=>by
  have h1:=Vr (l.take i);have h2:(l.take i).length<=l.length:=by grind
  rw[Bc hi,mZ];rcases a with rfl|rfl
  .unfold De;dsimp only;rw[if_pos (by omega),Ea hi,kaa,Bt,kaa,va (by omega)]
   grind[ends,Kh]
  .unfold td;dsimp only;rw[if_pos (by omega),Ea hi,kaa,Bt,kaa,va (by omega)]
   grind[ends,Kh]) (λx=>by
  rcases a with rfl|rfl
  all_goals grind[De,td]) rfl
 simp_all
theorem oT{l:List Int}(h:l.length<=4194304):((Ja l).bind λx=>(Ca x).bind λy=>some y)=some (wg l):=by
 unfold Ja Ca;rw[if_pos (by omega),kaa,if_pos (by simp;omega),kaa,yr]
theorem uw{l:List GDateRange}(hl:l.length<=1048576):vg l=some (wg (ends l)):=by
 have:=Vr l;unfold vg;rw[RL hl (.inl rfl),kaa]
 grind[oT]
theorem gZ{l:List GDateRange}(hl:l.length<=1048576):cg l=some (wg (ends l)):=by
 have:=Vr l;unfold cg;rw[RL hl (.inr rfl),kaa]
 grind[oT]
def Jp(x:Int):Bool:=decide (1<=x)&&decide (x<=109572)
def known(t1:Int) (f:GFact):Bool:=decide (f.Recorded<=t1)&&neB f.Valid
def aI(t1:Int) (l:List GFact):List GDateRange:=(l.filter (known t1)).map (·.Valid)
theorem EK(t1:Int) (l:List GFact):(aI t1 l).length<=l.length:=by
 grind[aI]
theorem knR_app{t1:Int}{a b:List GFact}:aI t1 (a++b)=aI t1 a++aI t1 b:=by simp[aI]
theorem Nv(l:List Int):(wg l).length<=l.length:=(Ig l).2.1
theorem qz{l:List GFact}(t1:Int) (hl:l.length<=65536):Md l t1=some ((wg (ends (aI t1 l))).filter Jp):=by
 unfold Md;have e1:=sG (step:=Ie l t1) (l:=l) rfl (aI t1) [] (λi hi=>by
  have c:=EK t1 (l.take i);have h2:(l.take i).length<=l.length:=by grind
  have a:aI t1 [l[i]]=if known t1 l[i]=true then [l[i].Valid]else []:=by
   grind[aI]
  rw[Bc hi,knR_app,a];have ha:=Kh (b:=16) (show((aI t1 (l.take i)).length + [l[i].Valid].length)*16<=140737488355328 by grind);generalize aI t1 (l.take i)=w at *;unfold Ie;dsimp only;rw[if_pos (by omega),Ea hi,kaa,Rv,va (by omega)]
  grind[known]) (λx=>by grind[Ie]) rfl
 rw[Qaa]at e1;have hk:=EK t1 l;have he:=Vr (aI t1 l);have hd:=Nv (ends (aI t1 l));rw[e1,kaa];dsimp only;rw[uw (by omega),kaa];generalize wg (ends (aI t1 l))=q at *;have e2:=sG (step:=He q) (l:=q) rfl (λl=>l.filter Jp) [] (λi hi=>by
  have c:=cab Jp (q.take i);have h2:(q.take i).length<=q.length:=by grind
  rw[Bc hi,Oab];unfold He;dsimp only;rw[if_pos (by omega),Ea hi,kaa,va (by omega)]
  grind[Jp,Kh]) (λx=>by grind[He]) rfl
 simp_all
theorem loopJ{σ β ρ:Type}{step:σ->Option (Ex σ β ρ)}(I:Nat->σ->Prop) (n:Nat) (Q:β->Prop) (c:∀j s,j<n->I j s->∃s',step s=some (.go s')/\I (j+1) s') (a:∀s,I n s->∃b,step s=some (.brk b)/\Q b) :
 ∀(k j:Nat) (s:σ),j+k=n->I j s->∃b,ea step s=some (.inl b)/\Q b
 |0,j,s,h,hi=>by
  rw[Nat.add_zero]at h;grind[Va]
 |k+1,j,s,h,hi=>by
  obtain⟨s',h1,h2⟩:=c j s (by omega) hi;obtain⟨b,h3,h4⟩:=loopJ I n Q c a k (j+1) s' (by omega) h2
  grind[Jc]
def yx(l:List GTable):List GDateRange:=l.flatMap λt=>t.Rows.map (·.Valid)
def vx(l:List GScope):List GDateRange:=l.flatMap λs=>s.Rules.map (·.Valid)
theorem OB:∀{l:List GTable},(∀t∈l,t.Rows.length<=150)->(yx l).length<=150*l.length
 |[],_=>by simp[yx]
 |t::l,h=>by
  have h1:=OB (l:=l) λx hx=>h x (by grind)
  grind[yx]
theorem IB:∀{l:List GScope},(∀t∈l,t.Rules.length<=60)->(vx l).length<=60*l.length
 |[],_=>by simp[vx]
 |t::l,h=>by
  have h1:=IB (l:=l) λx hx=>h x (by grind)
  grind[vx]
theorem B5{a b:List GTable}:yx (a++b)=yx a++yx b:=by simp[yx]
theorem M4{a b:List GScope}:vx (a++b)=vx a++vx b:=by simp[vx]
theorem D5{t:GTable}:yx [t]=t.Rows.map (·.Valid):=by simp[yx]
theorem N4{t:GScope}:vx [t]=t.Rules.map (·.Valid):=by simp[vx]
theorem loopV{l:List α}(v:α->GDateRange) (hx:x0.length+l.length<=1048576) {step:List GDateRange×Int->Option (Ex (List GDateRange×Int) (List GDateRange) Unit)}
 (hgo:∀i (h:i<l.length) x,step (x,(i:Int))=(app 16 x [v l[i]]).bind λy=>some (.go (y,aa .i64 ((i:Int)+1)))) (a:∀x,step (x,(l.length:Int))=some (.brk x)):ea step (x0,0)=some (.inl (x0++l.map v)):=by
 refine sG (step:=step) (l:=l) rfl (λl=>l.map v) x0 (λi hi=>?_) a rfl
 grind[Kh,va,Bc]
structure FewR (l:GLaw):Prop where
 nt:l.Tables.length<=9
 ns:l.Scopes.length<=5
 t:∀t∈l.Tables,t.Rows.length<=150
 s:∀s∈l.Scopes,s.Rules.length<=60
variable {l:List Int}
theorem ZN{l:List α}{i:Nat}{x:α}(h:x∈l.take i):x∈l:=Mab h
theorem XU{l:GLaw}(h:FewR l):ea (bc l) ([],0)=some (.inl (yx l.Tables)):=by
 have hnt:=h.nt;have:=sG (step:=bc l) (l:=l.Tables) rfl yx [] (λi hi=>by
  have h1:=OB (l:=l.Tables.take i) λx hx=>h.t x (ZN hx);have h2:(l.Tables.take i).length<=l.Tables.length:=by grind
  have h3:=h.t l.Tables[i] (by simp);unfold bc;dsimp only;rw[if_pos (by omega),Ea hi,kaa,Qaa,loopV (l:=l.Tables[i].Rows) (·.Valid) (by omega) (λk hk x=>by simp_all[fg,Ea]) (λx=>by grind[fg]),kaa,va (by omega),Bc hi,B5,D5];rfl) (λx=>by grind[bc]) rfl
 simp_all
theorem WU{l:GLaw}(h:FewR l) (hx:x0.length<=10000):ea (Zb l) (x0,0)=some (.inl (x0++vx l.Scopes)):=by
 have hns:=h.ns;refine sG (step:=Zb l) (l:=l.Scopes) rfl vx x0 (λi hi=>?_) (λx=>by grind[Zb]) rfl;have h1:=IB (l:=l.Scopes.take i) λx hx=>h.s x (ZN hx);have h2:(l.Scopes.take i).length<=l.Scopes.length:=by grind
 have h3:=h.s l.Scopes[i] (by simp);unfold Zb;dsimp only;rw[if_pos (by omega),Ea hi,kaa,loopV (l:=l.Scopes[i].Rules) (·.Valid) (by grind) (λk hk x=>by simp_all[Lf,Ea]) (λx=>by grind[Lf]),kaa,va (by omega),Bc hi,M4,N4,Oaa]
theorem tM(x:Int):xc x=some (!Jp x):=by
 grind[xc,Jp]
theorem filter_all(h:∀i (hi:i<l.length),Jp l[i]=true):l.filter Jp=l:=by
 rw[List.filter_eq_self];intro x hx;obtain⟨i,hi,rfl⟩:=waa hx
 simp_all
theorem iZ(hq:q.length<=1048576):∃c,eg q=some (c,q.filter Jp):=by
 unfold eg xj;have p:=kh (step:=vd q) (x0:=0) (λi=>(i:Int)) (λi=>match q[i]? with|some x=>if Jp x=true then none else some (i:Int)|none=>none) q.length () (λi hi _=>by
  unfold vd;rw[if_pos (by omega),Ea hi,kaa,tM,kaa,va (by omega)]
  grind[zE]) (λ_=>by grind[vd])
 rw[p]
 cases hf:ff (λi=>match q[i]? with|some x=>if Jp x=true then none else some (i:Int)|none=>none) q.length with
 |none=>
  simp_all[fi,sb,filter_all]
 |some v=>
  obtain⟨k,r,l,k3⟩:=vb.1 hf;rw[naa r]at l;have hb:Jp q[k]=false:=by simp_all
  simp[hb]at l;subst l;have hk:(q.take k).filter Jp=q.take k:=filter_all λi hi=>by
   grind
  simp only[fi,kaa];rw[if_neg (by omega),va (by omega)];obtain⟨⟨c,n⟩,hl,hc⟩:=loopJ (step:=xd) (λj s=>s.2.2=(j:Int)/\s.1.length=q.length/\s.2.1=(((q.take j).filter Jp).length:Int)/\s.1.take ((q.take j).filter Jp).length=(q.take j).filter Jp/\s.1.drop j=q.drop j) q.length
   (λb=>b.1.length=q.length/\b.2=((q.filter Jp).length:Int)/\b.1.take (q.filter Jp).length=q.filter Jp) (λj s hj ⟨f,m,g,h,a⟩=>by
    obtain⟨c,n,jj⟩:=s;dsimp only at f m g h a;subst f g;have hle:=cab Jp (q.take j);have hlt:(q.take j).length=j:=by grind
    have d:c[j]'(by omega)=q[j]:=by
     have o:(c.drop j)[0]?=(q.drop j)[0]?:=by rw[a]
     grind
    have hd:c.drop (j+1)=q.drop (j+1):=by
     have:=congrArg (List.drop 1) a;simpa using this
    unfold xd;dsimp only;rw[if_pos (by omega),Ea (show j<c.length by omega),kaa,tM,kaa,d,va (show j<4611686018427387904 by omega),Bc hj,Oab];cases hb:Jp q[j]
    .simp_all
    .rw[if_pos (by simp),Ea (show((q.take j).filter Jp).length<c.length by omega),kaa,iA (by omega),kaa,va (by omega)];refine⟨_,rfl,rfl,by simp_all,by grind,?_,?_⟩
     .simp only[hb,List.filter_cons,List.filter_nil,if_true,Faa,qaa,Aaa,Jab];rw[Raa,List.take_set_of_le (Haa _),h,List.getElem?_set_self (by omega)];rfl
     grind[List.drop_set_of_lt]) (λs ⟨f,m,g,h,a⟩=>by
    simp_all[xd]) (q.length-(k+1)) (k+1) (q,(k:Int),((k+1:Nat):Int)) (by omega) (by
    have e:(q.take (k+1)).filter Jp=q.take k:=by
     grind[Bc]
    grind)
  dsimp only at hc;obtain⟨o,rfl,h3⟩:=hc
  simp_all[E8,cab,l5,fw]
theorem Qv{l:GLaw}(h:FewR l):Pf l=some ((wg (ends (yx l.Tables++vx l.Scopes))).filter Jp):=by
 have hnt:=h.nt;have hns:=h.ns;have h1:=OB h.t;have h2:=IB h.s;have h3:=Vr (yx l.Tables++vx l.Scopes)
 grind[Pf,Nv,XU,WU,gZ,iZ]
def mG(y:Int):Bool:=decide (y % 4=0)&&(!decide (y % 100=0) || decide (y % 400=0))
def Tl(y m:Int):Int:=if m=2 then(if mG y=true then 29 else 28)else if m=4\/m=6\/m=9\/m=11 then 30 else 31
def gp(y:Int):Nat->Int
 |0=>0
 |n+1=>gp y n+Tl y (n+1)
def wi:Nat->Int
 |0=>0
 |n+1=>wi n+(if mG (1900+n)=true then 366 else 365)
theorem S5{a b:Int}(h:0<=a):a.tmod b=a % b:=Int.tmod_eq_emod_of_nonneg h
theorem oH{a b:Int}(h:0<=a):a.tdiv b=a / b:=Lad h
theorem QH(h:0<=y):Sr y=some (mG y):=by
 grind[Sr,mG]
theorem Qc{m:Int}(h:0<=y) (h1:1<=m) (h2:m<=12):Zc y m=some (Tl y m):=by
 unfold Zc Tl;rw[if_pos (by omega),kaa,if_neg (by simp_all),QH h];rw[wid (by omega) (by omega)];have:m=1\/m=2\/m=3\/m=4\/m=5\/m=6\/m=7\/m=8\/m=9\/m=10\/m=11\/m=12:=by omega
 rcases this with rfl|rfl|rfl|rfl|rfl|rfl|rfl|rfl|rfl|rfl|rfl|rfl<;>first|(cases mG y<;>simp[idx,mL])|simp[idx,mL]
theorem um{m:Int}:28<=Tl y m/\Tl y m<=31:=by
 grind[Tl]
theorem Gr{y:Int}:∀n,0<=gp y n/\gp y n<=31*n
 |0=>by simp[gp]
 |n+1=>by
  have:=Gr (y:=y) n;have:=um (y:=y) (m:=n+1)
  grind[gp]
theorem Qs:∀n,0<=wi n/\wi n<=366*n
 |0=>by simp[wi]
 |n+1=>by
  have:=Qs n
  grind[wi]
theorem BH:∀n:Nat,wi n=365*n+((1899+n:Int) / 4-(1899+n:Int) / 100+(1899+n:Int) / 400)-460
 |0=>by simp[wi]
 |n+1=>by
  simp only[wi,BH n,mG]
  grind
theorem Vj{n:Nat}(h:n<=1000):Oh (1900+n)=some (wi n):=by
 unfold Oh Rm;simp only[kaa];have e1:aa .i64 ((1900+(n:Int))-1)=1899+n:=by grind[wid]
 have e2:aa .i64 ((1900+(n:Int))-1900)=n:=by grind[wid]
 rw[e1,e2];rw[oH (a:=1899+(n:Int)) (by omega),oH (a:=1899+(n:Int)) (by omega),oH (a:=1899+(n:Int)) (by omega)]
 grind[BH,wid]
def Vl(n m:Nat):Int:=wi n+gp (1900+n) m
theorem DF{n m:Nat}(hn:n<300) (hm:m<12):Qi (1900+n) (m+1) 1=some (Vl n m,0):=by
 unfold Qi;have hy:=Qs n;have hd:=um (y:=1900+n) (m:=(m:Int)+1);rw[if_pos (by omega),if_pos (by omega),if_pos (by omega),if_pos (by omega),if_pos (by omega),Qc (by omega) (by omega) (by omega),kaa,kaa,if_neg (by grind),Vj (by omega),kaa];have e:ea (Vc (1900+n) (m+1)) (wi n,0)=some (.inl (Vl n m)):=Od (step:=Vc (1900+n) (m+1)) (λi=>(wi n+gp (1900+n) i,(i:Int))) m (Vl n m) (λi hi=>by
  unfold Vc;dsimp only;rw[wid (n:=(m:Int)+1-1) (by omega) (by omega),if_pos (by omega),va (by omega),Qc (by omega) (by omega) (by omega),kaa];have:=Gr (y:=1900+n) i;have:=um (y:=1900+n) (m:=((i+1:Nat):Int))
  grind[gp,wid]) (by
  unfold Vc;dsimp only;rw[wid (n:=(m:Int)+1-1) (by omega) (by omega),if_neg (by omega)];rfl) (by simp[gp])
 rw[e];have:=Gr (y:=1900+n) m
 grind[Vl,wid]
def Tc(t:Int):GDateRange×Int:=if 0<=t/\t<=3599 then(⟨Vl (t.toNat / 12) (t.toNat % 12),Vl (t.toNat / 12) (t.toNat % 12)+Tl (1900+(t.toNat / 12:Nat)) ((t.toNat % 12:Nat)+1)⟩,0)else(⟨0,0⟩,3)
theorem TC{t:Int}(h:(Tc t).2=0):0<=(Tc t).1.From/\(Tc t).1.From<(Tc t).1.To/\(Tc t).1.To<=1000000:=by
 unfold Tc at h⊢;split
 .rename_i hc;have:=Qs (t.toNat / 12);have:=Gr (y:=1900+((t.toNat / 12:Nat):Int)) (t.toNat % 12);have:=um (y:=1900+((t.toNat / 12:Nat):Int)) (m:=((t.toNat % 12:Nat):Int)+1)
  grind[Vl]
 simp_all
theorem XW{t:Int}(h1:0<=t) (h2:t<=3599):aa .i64 (1900+aa .i64 (t.tdiv 12))=1900+((t.toNat / 12:Nat):Int)/\aa .i64 (t.tmod 12+1)=((t.toNat % 12:Nat):Int)+1:=by
 grind[wid]
theorem iI(t:Int):Fp t=some (decide (0<=t/\t<=3599)):=by
 grind[Fp]
theorem gI(t:Int):Ds t=some (Tc t):=by
 unfold Ds Lw Tc;rw[iI,kaa];by_cases h:0<=t/\t<=3599
 .obtain⟨e1,e2⟩:=XW h.1 h.2;have hn:t.toNat / 12<300:=by omega
  have hm:t.toNat % 12<12:=by omega
  have:=Qs (t.toNat / 12);have:=Gr (y:=1900+((t.toNat / 12:Nat):Int)) (t.toNat % 12);have:=um (y:=1900+((t.toNat / 12:Nat):Int)) (m:=((t.toNat % 12:Nat):Int)+1);rw[if_neg (by grind),e1,e2,DF hn hm,kaa];simp only[if_neg (show¬(decide (0<=t/\t<=3599)=false) by grind),kaa,Qc (y:=1900+((t.toNat / 12:Nat):Int)) (m:=((t.toNat % 12:Nat):Int)+1) (by omega) (by omega) (by omega),if_pos h];rw[if_neg (by simp),wid (by grind[Vl]) (by grind[Vl])]
 simp_all
theorem EJ:wi 300=109573:=by grind[BH]
theorem dim_c(y:Int):Tl y 1=31/\Tl y 3=31/\Tl y 4=30/\Tl y 5=31/\Tl y 6=30/\Tl y 7=31/\Tl y 8=31/\Tl y 9=30/\Tl y 10=31/\Tl y 11=30/\Tl y 12=31:=by
 simp[Tl]
theorem monS_12(y:Int):gp y 12=if mG y=true then 366 else 365:=by
 obtain⟨h1,h3,h4,h5,h6,h7,h8,h9,h10,h11,h12⟩:=dim_c y;have e:gp y 12=0+Tl y 1+Tl y 2+Tl y 3+Tl y 4+Tl y 5+Tl y 6+Tl y 7+Tl y 8+Tl y 9+Tl y 10+Tl y 11+Tl y 12:=rfl
 grind[Tl]
theorem CH(n:Nat):wi (n+1)=wi n+gp (1900+n) 12:=by
 rw[monS_12];rfl
theorem Pw:∀{i j:Nat},i<=j->wi i<=wi j:=by
 intro i j h
 induction h with
 |refl=>omega
 |step h ih=>
  grind[wi]
theorem jJ:∀{i j:Nat},i<=j->gp y i<=gp y j:=by
 intro i j h
 induction h with
 |refl=>omega
 |step h ih=>
  rename_i j;have:=um (y:=y) (m:=j+1)
  grind[gp]
theorem PR{t:Int}(c:0<=t):∀N,t<wi N->∃n,n<N/\wi n<=t/\t<wi (n+1)
 |0,h=>by grind[wi]
 |N+1,h=>by
  by_cases d:t<wi N
  .obtain⟨n,a,b⟩:=PR c N d
   grind
  grind
theorem CM{y t:Int}(c:0<=t):∀N,t<gp y N->∃n,n<N/\gp y n<=t/\t<gp y (n+1)
 |0,h=>by grind[gp]
 |N+1,h=>by
  by_cases d:t<gp y N
  .obtain⟨n,a,b⟩:=CM c N d
   grind
  grind
structure Ymd (t:Int) (n m:Nat) (k:Int):Prop where
 hn:n<300
 hm:m<12
 hk:0<=k/\k<Tl (1900+n) (m+1)
 ht:t=Vl n m+k
variable {n m:Int}{k:Bool->Option α}
theorem oL{t:Int}(b:0<=t) (h1:t<=109572):∃n m k,Ymd t n m k:=by
 obtain⟨n,a1,a2,a3⟩:=PR b 300 (by grind[EJ]);rw[CH]at a3;obtain⟨m,a,b2,b3⟩:=CM (y:=1900+n) (t:=t-wi n) (by omega) 12 (by omega);refine⟨n,m,t-wi n-gp (1900+n) m,a1,a,⟨by omega,?_⟩,by grind[Vl]⟩
 grind[gp]
theorem Ymd.year{t n m k}(h:Ymd t n m k):wi n<=t/\t<wi (n+1):=by
 obtain⟨h1,h2,h3,h4⟩:=h;have:=(Gr (y:=1900+n) m).1;have h5:=jJ (y:=1900+n) (i:=m+1) (j:=12) (by omega)
 grind[gp,Vl,CH]
theorem Ymd.range{t n m k}(h:Ymd t n m k):0<=t/\t<=109572:=by
 have h1:=h.year;have:=Pw (i:=n+1) (j:=300) (by have:=h.hn;omega);rw[EJ]at this;have:=Qs n;omega
theorem Pn(t:Int):Rk t=some (decide (0<=t/\t<=109572)):=by
 grind[Rk]
theorem loopR{σ ρ:Type}{step:σ->Option (Ex σ β ρ)}{x0:σ}(S:Nat->σ) (n:Nat) (v:ρ) (hgo:∀i,i<n->step (S i)=some (.go (S (i+1)))) (hend:step (S n)=some (.ret v)) (a:x0=S 0):ea step x0=some (.inr v):=by
 subst a;have:∀k j,j+k=n->ea step (S j)=some (.inr v):=by
  intro k
  induction k with
  |zero=>simp_all[kr]
  |succ k ih=>grind[Jc]
 simp_all
theorem Ft{t n m k}(h:Ymd t n m k):Qk t=some (1900+(n:Int),(m:Int)+1,k+1):=by
 have hr:=h.range;have hy:=h.year;unfold Qk;rw[Pn,kaa,if_neg (by simp_all)];have hq:t.tdiv 366=((t.toNat / 366:Nat):Int):=by grind
 have hle:t.toNat / 366<=n:=by
  have:=(Qs (n+1)).2;omega
 have e1:ea (Pl t) (aa .i64 (1900+(aa .i64 (Zaa t 366))))=some (.inl (1900+(n:Int))):=by
  refine Od (step:=Pl t) (λi=>1900+((t.toNat / 366+i:Nat):Int)) (n-t.toNat / 366) _ (λi hi=>?_) ?_ ?_
  .unfold Pl;have hm:=Pw (i:=t.toNat / 366+i+1) (j:=n) (by omega);have e:aa .i64 (1900+((t.toNat / 366+i:Nat):Int)+1)=1900+((t.toNat / 366+i+1:Nat):Int):=by
    rw[wid (by omega) (by have:=h.hn;omega)];omega
   rw[e,Vj (by have:=h.hn;omega),kaa,if_pos (by omega)];rfl
  .unfold Pl;have e:aa .i64 (1900+((t.toNat / 366+(n-t.toNat / 366):Nat):Int)+1)=1900+((n+1:Nat):Int):=by
    rw[wid (by omega) (by have:=h.hn;omega)];omega
   rw[e,Vj (by have:=h.hn;omega),kaa,if_neg (by omega)]
   simp_all
  grind[wid]
 rw[e1,kaa];dsimp only;rw[Vj (by have:=h.hn;omega),kaa];have ht:=h.ht;unfold Vl at ht;have hmm:=Gr (y:=1900+n) m;have hkk:=h.hk;have hdd:=um (y:=1900+n) (m:=m+1);have hyy:=Qs n;have hm12:=h.hm;have hn3:=h.hn;have e2:ea (Ol (1900+n)) (aa .i64 (t-wi n),0)=some (.inr (1900+(n:Int),(m:Int)+1,k+1)):=by
  refine loopR (step:=Ol (1900+n)) (λi=>(gp (1900+n) m-gp (1900+n) i+k,(i:Int))) m _ (λi hi=>?_) ?_ ?_
  .unfold Ol;dsimp only;have a:=jJ (y:=1900+n) (i:=i+1) (j:=m) (by omega);have h3:=(Gr (y:=1900+n) i);have h4:=um (y:=1900+n) (m:=i+1);simp only[gp]at a;rw[if_pos (by omega),va (by omega),Qc (by omega) (by omega) (by omega),kaa];rw[show((i+1:Nat):Int)=(i:Int)+1 from rfl]at *;rw[if_neg (by omega),wid (by omega) (by omega)]
   grind[gp]
  .unfold Ol;dsimp only;rw[if_pos (by omega),va (by omega),Qc (by omega) (by omega) (by omega),kaa];rw[show((m+1:Nat):Int)=(m:Int)+1 from rfl]at *;rw[if_pos (by omega),wid (by omega) (by omega)];simp
  grind[gp,wid]
 simp_all
theorem CF{n m:Nat}{d:Int}(hn:n<300) (hm:m<12) (hd1:1<=d) (hd2:d<=Tl (1900+n) (m+1)):Qi (1900+n) (m+1) d=some (Vl n m+d-1,0):=by
 unfold Qi;have hy:=Qs n;have hd:=um (y:=1900+n) (m:=(m:Int)+1);rw[if_pos (by omega),if_pos (by omega),if_pos (by omega),if_pos (by omega),if_pos (by omega),Qc (by omega) (by omega) (by omega),kaa,kaa,if_neg (by simp_all),Vj (by omega),kaa];have e:ea (Vc (1900+n) (m+1)) (wi n,0)=some (.inl (Vl n m)):=Od (step:=Vc (1900+n) (m+1)) (λi=>(wi n+gp (1900+n) i,(i:Int))) m (Vl n m) (λi hi=>by
  unfold Vc;dsimp only;rw[wid (n:=(m:Int)+1-1) (by omega) (by omega),if_pos (by omega),va (by omega),Qc (by omega) (by omega) (by omega),kaa];have:=Gr (y:=1900+n) i;have:=um (y:=1900+n) (m:=((i+1:Nat):Int))
  grind[gp,wid]) (by
  unfold Vc;dsimp only;rw[wid (n:=(m:Int)+1-1) (by omega) (by omega),if_neg (by omega)];rfl) (by simp[gp])
 rw[e];have:=Gr (y:=1900+n) m
 grind[Vl,wid]
def TX(n m:Nat) (k j:Int):Int×Int:=
 if 12*(n:Int)+m+j<0\/3599<12*(n:Int)+m+j then(0,3)else
 (Vl ((12*(n:Int)+m+j) / 12).toNat ((12*(n:Int)+m+j) % 12).toNat+min (k+1) (Tl (1900+(12*(n:Int)+m+j) / 12) ((12*(n:Int)+m+j) % 12+1))-1,0)
theorem or3'{b:Prop} [Decidable b] [Decidable c] {x:Option Bool}(hx:x=some true):(laa (α:=Bool) (x.bind λa=>if a=true then if¬b then some (decide c)else some true else some true) k)=k (decide (b\/c)):=by
 grind
theorem Jv{t n m k}(h:Ymd t n m k) (hj:-3600<=j/\j<=3600):ug t j=some (TX n m k j):=by
 have hr:=h.range;have hkk:=h.hk;have hm12:=h.hm;have hn3:=h.hn;have hdd:=um (y:=1900+n) (m:=m+1);unfold ug;rw[or3' (by grind[Pn]),if_neg (by simp_all),Ft h,kaa];have e:aa .i64 ((aa .i64 ((aa .i64 ((aa .i64 ((aa .i64 (1900+(n:Int)-1900))*12))+((m:Int)+1)))-1))+j)=12*(n:Int)+m+j:=by
  grind[wid]
 dsimp only;rw[e];unfold TX;generalize 12*(n:Int)+m+j=K at *;by_cases a:K<0
 .simp_all
 .rw[if_pos a,kaa];by_cases h2:3599<K
  .simp_all
  .rw[if_neg (by simp_all),if_neg (by omega)];have e2:aa .i64 (1900+aa .i64 (Zaa K 12))=1900+((K / 12).toNat:Int):=by
    grind[wid]
   have e3:aa .i64 (Dab K 12+1)=((K % 12).toNat:Int)+1:=by
    grind[wid]
   rw[e2,e3];have hd2:=um (y:=1900+((K / 12).toNat:Int)) (m:=((K % 12).toNat:Int)+1);rw[Qc (by omega) (by omega) (by omega),kaa,CF (by omega) (by omega) (by omega) (by omega),kaa]
   grind
theorem nR{t n m k}(h:Ymd t n m k) {i:Nat}:(n+i<300->∃c,Ymd (TX n m k (12*i)).1 (n+i) m c/\(TX n m k (12*i)).2=0/\(i=0->(TX n m k (12*i)).1=t))/\(300<=n+i->TX n m k (12*i)=(0,3)):=by
 have hkk:=h.hk;have a:=h.hm;have hn3:=h.hn;constructor
 .intro hi;have e1:(12*(n:Int)+m+12*i) / 12=((n+i:Nat):Int):=by omega
  have e2:(12*(n:Int)+m+12*i) % 12=(m:Int):=by omega
  unfold TX;rw[if_neg (by omega),e1,e2];have hd2:=um (y:=1900+((n+i:Nat):Int)) (m:=(m:Int)+1);simp only[Hac];refine⟨min (k+1) (Tl (1900+((n+i:Nat):Int)) ((m:Int)+1))-1,⟨hi,a,by omega,by omega⟩,trivial,λb=>?_⟩;subst b;have:=h.ht
  grind
 grind[TX]
theorem years_p(a b:Int):∃r,Ri a b=some r/\0<=r/\r<=300:=by
 unfold Ri;rw[Pn,Pn];by_cases d:¬(0<=a/\a<=109572)
 .grind
 have d:=Gac.1 d;by_cases e:¬(0<=b/\b<=109572)
 .grind
 have e:=Gac.1 e;rw[decide_eq_true d,decide_eq_true e];simp only[kaa,if_true,Bool.not_true,Eaa,if_false];obtain⟨c,k,h,ha⟩:=oL d.1 d.2;obtain⟨f,mb,kb,hb⟩:=oL e.1 e.2;have hya:=ha.year;have hyb:=hb.year;have hna:=ha.hn;have g:=hb.hn;by_cases hab:b<a
 .simp_all
 .rw[if_neg (by simp_all),Ft ha,kaa,Ft hb,kaa];dsimp only;have hle:c<=f:=by
   rcases Nat.lt_or_ge f c with l|l
   .have:=Pw (i:=f+1) (j:=c) (by omega);omega
   omega
  obtain⟨Y,hY⟩:∃Y,f=c+Y:=⟨f-c,by omega⟩;subst hY;have e1:aa .i64 (1900+((c+Y:Nat):Int)-(1900+(c:Int)))=(Y:Int):=by grind[wid]
  rw[e1,wid (n:=12*(Y:Int)) (by omega) (by omega),Jv ha (by omega),kaa];obtain⟨k',g1,g2,g3⟩:=(nR ha (i:=Y)).1 g;have below:∀i,i<Y->(TX c k h (12*(i:Int))).2=0/\(TX c k h (12*(i:Int))).1<=b:=by
   intro i hi;obtain⟨k2,q1,q2,-⟩:=(nR ha (i:=i)).1 (by omega);have:=q1.year;have:=Pw (i:=c+i+1) (j:=c+Y) (by omega);omega
  rw[if_pos g2,kaa];by_cases hc:b<(TX c k h (12*(Y:Int))).1
  .rw[if_pos (by simp_all),kaa];have hY0:Y≠0:=by
    omega
   obtain⟨Z,rfl⟩:∃Z,Y=Z+1:=⟨Y-1,by omega⟩
   grind[wid]
  grind
def rD(r:GDateRange) (d:Int):Bool:=vrB r&&(decide (r.From<=d)&&decide (d<r.To))
theorem Si(r:GDateRange) (d:Int):fc r d=some (rD r d):=by
 grind[fc,rD,Tp]
def TV(def_ date:Int) (r:GRule):Bool:=decide (r.Def=def_)&&rD r.Valid date
def lp(rules:List GRule) (q:GRule->Bool):Nat->List Int×List Int×List Int
 |0=>([],[],oaa rules.length 0)
 |i+1=>
  match rules[i]? with
  |none=>lp rules q i
  |some r=>
   let p:=lp rules q i
   let a:=if 0<=r.Parent/\r.Parent<(i:Int)then(p.2.2[r.Parent.toNat]?).getD 0 else -1
   if q r=true then(p.1++[(i:Int)],p.2.1++[a],(p.2.2.set i a).set i (p.1.length:Int))else(p.1,p.2.1,p.2.2.set i a)
theorem zB{rules:List GRule}{q:GRule->Bool}:∀i,(lp rules q i).2.2.length=rules.length/\(lp rules q i).1.length<=i/\(lp rules q i).2.1.length=(lp rules q i).1.length
 |0=>by simp[lp]
 |i+1=>by
  obtain⟨h1,h2,h3⟩:=zB (rules:=rules) (q:=q) i
  grind[lp]
theorem RG{rules:List GRule}{q:GRule->Bool}:∀i,∀x∈(lp rules q i).1,0<=x/\x<(rules.length:Int)/\x<(i:Int)
 |0=>by simp[lp]
 |i+1=>by
  have h:=RG (rules:=rules) (q:=q) i;unfold lp
  grind
theorem ox{rules:List GRule}(hr:rules.length<=1048576) {f:GRule->Option Bool}{q:GRule->Bool}(hf:∀r,f r=some (q r)):xf rules f=some ((lp rules q rules.length).1,(lp rules q rules.length).2.1):=by
 unfold xf;rw[LC (by omega) (by omega),kaa];have hl:ea (Ze rules f) (([]:List Int),([]:List Int),oaa rules.length 0,0)=some (.inl ((lp rules q rules.length).1,(lp rules q rules.length).2.1)):=by
  refine Od (λi=>((lp rules q i).1,(lp rules q i).2.1,(lp rules q i).2.2,(i:Int))) rules.length _ (λi hi=>?_) (by grind[Ze]) rfl;obtain⟨h1,h2,h3⟩:=zB (rules:=rules) (q:=q) i;unfold Ze;simp only[lp,naa hi];rw[if_pos (by omega),Ea hi,kaa,va (by omega),hf];generalize rules[i]=r;have hanc:(laa (α:=Int) (laa (α:=Bool) (if 0<=r.Parent then some (decide (r.Parent<(i:Int)))else some false) λd=>if d=true then(idx (lp rules q i).2.2 r.Parent).bind λb=>some b else some (-1)) λc=>some c)=some (if 0<=r.Parent/\r.Parent<(i:Int)then((lp rules q i).2.2[r.Parent.toNat]?).getD 0 else -1):=by
   by_cases g1:0<=r.Parent
   .by_cases g2:r.Parent<(i:Int)
    .rw[if_pos g1,kaa,if_pos (by simp_all),if_pos ⟨g1,g2⟩,Zn g1 (by omega),naa (by omega)];rfl
    grind
   grind
  have a:(laa (α:=Bool) (if 0<=r.Parent then some (decide (r.Parent<(i:Int)))else some false) λd=>if d=true then(idx (lp rules q i).2.2 r.Parent).bind λb=>some b else some (-1))=some (if 0<=r.Parent/\r.Parent<(i:Int)then((lp rules q i).2.2[r.Parent.toNat]?).getD 0 else -1):=by
   simp_all
  rw[a,kaa];generalize (if 0<=r.Parent/\r.Parent<(i:Int)then((lp rules q i).2.2[r.Parent.toNat]?).getD 0 else -1)=anc;rw[Ea (i:=i) (by omega),kaa,iA (by omega),kaa,kaa];cases q r
  .simp
  .rw[if_pos rfl,Ea (i:=i) (by simp_all),kaa,iA (by simp_all),kaa,Kh (by grind),kaa,Kh (by grind),kaa];rfl
 simp_all
def XQ(neg:Bool) (mode:Int) (q r d:Nat):Prop:=
 (mode=0/\neg=true/\0<r)\/(mode=1/\neg=false/\0<r)\/(mode=3/\0<r)\/(mode=4/\d<=r+r)\/(mode=5/\(d<r+r\/(d=r+r/\q % 2=1)))
instance (neg:Bool) (mode:Int) (q r d:Nat):Decidable (XQ neg mode q r d):=by unfold XQ;infer_instance
def Ys(neg:Bool) (mode:Int) (q r d:Nat):Nat:=if XQ neg mode q r d then q+1 else q
theorem Vy(neg:Bool) (mode:Int) (q r d:Nat):q<=Ys neg mode q r d/\Ys neg mode q r d<=q+1:=by
 grind[Ys]
def qE(neg:Bool) (n:Nat):Int:=if neg=true then -(n:Int)else n
theorem sgn_abs(neg:Bool) (n:Nat):(qE neg n).natAbs=n:=by grind[qE]
theorem wuN(h1:0<=n) (h2:n<18446744073709551616):aa .u64 n=n:=by
 grind[aa]
theorem R5(q:Nat):((Dab (q:Int) 2)==1)=decide (q % 2=1):=by
 grind
theorem half{q:Nat}:(if¬((d:Int)-r)<r then if(r:Int)=d-r then some (decide (q % 2=1))else some false else some true)=some (decide (d<r+r\/(d=r+r/\q % 2=1))):=by
 by_cases a:(d:Int)-r<r
 .grind
 .rw[if_pos a];by_cases h2:(r:Int)=d-r
  .rw[if_pos h2];congr 1;grind
  .rw[if_neg h2];simp;omega
theorem GN{q:Nat}(neg:Bool) (mode:Int) (hq:q<9223372036854775808) (hr:r<d) (hd:d<9223372036854775808):Re q r d neg mode=some ((Ys neg mode q r d:Nat):Int):=by
 unfold Re Ys;rw[wuN (n:=(d:Int)-r) (by omega) (by omega),wuN (n:=(q:Int)+1) (by omega) (by omega),R5,half];by_cases a:r=0
 .subst a;rw[if_pos (by rfl),if_neg (by unfold XQ;omega)]
 .rw[if_neg (by omega)];unfold XQ
  grind
theorem mq(n:Int):Vg n=some (decide (0<=n/\n<=5)):=by
 grind[Vg]
theorem beyO{k x:Int}(hx:x = -k):(laa (α:=Bool) (if¬k<n then some (decide (n<x))else some true) λj=>some j)=some (decide (k<n\/n < -k)):=by
 subst hx;grind
theorem ei{k:Int}(h1:0<=k) (h2:k<9223372036854775808):lf n k=some (decide (k<n\/n < -k)):=by
 grind[lf,beyO,wid]
theorem Jg(h1:-9223372036854775808<=n) (h2:n<9223372036854775808):qe n=some (n.natAbs:Int):=by
 grind[qe,aa]
theorem ry{q:Nat}(b:Bool) (h:q<9223372036854775808):eo q b=some (qE b q):=by
 grind[eo,qE,wid]
theorem quoU{a b:Nat}(h:0<b) (ha:a<9223372036854775808):quo .u64 (a:Int) (b:Int)=some ((a / b:Nat):Int):=by
 unfold quo;have:=tad a b;rw[if_neg (by omega),Lad (by omega),←Int.natCast_ediv]
 grind[wuN]
theorem remU{a b:Nat}{k:IntKind}(h:0<b):rem k (a:Int) (b:Int)=some ((a % b:Nat):Int):=by
 grind[rem]
def JR(n d mode:Int):Int×Int:=
 if¬(0<=mode/\mode<=5)then(0,1)else
 if d=0 then(0,12)else
 if(4611686018427387904<n\/n < -4611686018427387904)\/(4611686018427387904<d\/d < -4611686018427387904)then(0,3)else
 (qE (!(decide (n<0)==decide (d<0))) (Ys (!(decide (n<0)==decide (d<0))) mode (n.natAbs / d.natAbs) (n.natAbs % d.natAbs) d.natAbs),0)
theorem or2{a b:Prop} [Decidable a] [Decidable b] (h:o=some (decide b)) :(laa (α:=Bool) ((some (decide a)).bind λx=>if x=false then o.bind λy=>some y else some true) k)=k (decide (a\/b)):=by
 grind
theorem rk(n d mode:Int):kf n d mode=some (JR n d mode):=by
 unfold kf JR;rw[mq,kaa];by_cases hm:0<=mode/\mode<=5
 .rw[if_neg (by simp_all),if_neg (saa.2 hm)];by_cases a:d=0
  .simp_all
  .rw[if_neg a,if_neg a,ei (by omega) (by omega),or2 (ei (by omega) (by omega))];by_cases hb:(4611686018427387904<n\/n < -4611686018427387904)\/(4611686018427387904<d\/d < -4611686018427387904)
   .simp_all
   .rw[if_neg (by simp_all),if_neg hb,Jg (by omega) (by omega),kaa,Jg (by omega) (by omega),kaa];have hl:=tad n.natAbs d.natAbs;have hr:=(Vy (!(decide (n<0)==decide (d<0))) mode (n.natAbs / d.natAbs) (n.natAbs % d.natAbs) d.natAbs).2;rw[quoU (by omega) (by omega),kaa,remU (by omega),kaa,GN _ _ (by omega) (Lac _ (by omega)) (by omega),kaa,ry _ (by omega)];rfl
 simp_all
def mdS(c num den mode:Int):Int×Int:=
 if¬(0<=mode/\mode<=5)then(0,1)else
 if den=0 then(0,12)else
 if(1000000000000000<c\/c < -1000000000000000)\/(1000000000<num\/num < -1000000000)\/(1000000000<den\/den < -1000000000)then(0,3)else
 if Ys (!((!((decide (c<0))==(decide (num<0))))==(decide (den<0)))) mode (c.natAbs*num.natAbs / den.natAbs) (c.natAbs*num.natAbs % den.natAbs) den.natAbs<=1000000000000000 then
  (qE (!((!((decide (c<0))==(decide (num<0))))==(decide (den<0)))) (Ys (!((!((decide (c<0))==(decide (num<0))))==(decide (den<0)))) mode (c.natAbs*num.natAbs / den.natAbs) (c.natAbs*num.natAbs % den.natAbs) den.natAbs),0)
 else(0,3)
theorem or3{a b:Prop} [Decidable a] [Decidable b] [Decidable c] {p:Option Bool}(h:o=some (decide b)) (h2:p=some (decide c)) :(laa (α:=Bool) ((some (decide a)).bind λx=>if x=false then o.bind λy=>if y=false then p.bind λz=>some z else some true else some true) k)=k (decide (a\/b\/c)):=by
 grind
theorem JS{x y:Nat}(hx:x<18446744073709551616) (hy:y<18446744073709551616):pe x y=some (((x*y / 18446744073709551616:Nat):Int),((x*y % 18446744073709551616:Nat):Int)):=by
 grind[pe]
theorem UY{p:Nat}(hp:p / 18446744073709551616<z) (hz:z<18446744073709551616):Gf ((p / 18446744073709551616:Nat):Int) ((p % 18446744073709551616:Nat):Int) z=some (((p / z:Nat):Int),((p % z:Nat):Int)):=by
 grind[Gf]
theorem LI{p:Nat}(a:0<z) (h:z<=p / 18446744073709551616):18446744073709551616<=p / z:=by
 rw[Nat.le_div_iff_mul_le a];omega
theorem qy(c num den mode:Int):kq c num den mode=some (mdS c num den mode):=by
 unfold kq mdS;rw[mq,kaa];by_cases hm:0<=mode/\mode<=5
 .rw[if_neg (by simp_all),if_neg (saa.2 hm)];by_cases e:den=0
  .simp_all
  .rw[if_neg e,if_neg e,ei (by omega) (by omega),or3 (ei (by omega) (by omega)) (ei (by omega) (by omega))];by_cases hb:(1000000000000000<c\/c < -1000000000000000)\/(1000000000<num\/num < -1000000000)\/(1000000000<den\/den < -1000000000)
   .simp_all
   .rw[if_neg (by simp_all),if_neg hb,Jg (by omega) (by omega),kaa,Jg (by omega) (by omega),kaa];generalize (!((!((decide (c<0))==(decide (num<0))))==(decide (den<0))))=ng;obtain⟨x,hx⟩:∃x,c.natAbs=x:=⟨_,rfl⟩;obtain⟨y,k⟩:∃x,num.natAbs=x:=⟨_,rfl⟩;obtain⟨z,f⟩:∃x,den.natAbs=x:=⟨_,rfl⟩;have a:=Jg (n:=den) (by omega) (by omega);rw[f]at a;rw[hx,k,f,a];have g:x<=1000000000000000:=by omega
    have bY:y<=1000000000:=by omega
    have d:z<=1000000000/\0<z:=by omega
    have b:x*y<=1000000000000000000000000:=Qab (Tac g bY) (by decide);rw[JS (by omega) (by omega)];simp only[kaa];generalize x*y=p at b⊢;by_cases j:z<=p / 18446744073709551616
    .rw[if_pos (by omega),if_neg];have h:=(Vy ng mode (p / z) (p % z) z).1;have h2:=LI d.2 j;omega
    .rw[if_neg (by omega),UY (by omega) (by omega)];simp only[kaa];have h:=Vy ng mode (p / z) (p % z) z;by_cases hq:p / z<=1000000000000000
     .rw[if_neg (by omega),GN _ _ (by omega) (Lac _ d.2) (by omega),kaa];by_cases i:Ys ng mode (p / z) (p % z) z<=1000000000000000
      .rw[if_neg (by omega),if_pos i,ry _ (by omega)];rfl
      grind
     grind
 simp_all
theorem bw(n:Int):wk n=some (decide (0<=n/\n<=5)):=by
 grind[wk]
theorem No{k:Int}(h1:0<=k) (h2:k<9223372036854775808):lj n k=some (decide (k<n\/n < -k)):=by
 grind[lj,beyO,wid]
theorem OK(c r mode:Int):kp c r mode=some (mdS c r 1000000 mode):=by
 grind[kp,qy]
def tX(mode q r d:Int):Prop:=
 r≠0/\(mode=1\/(mode=2/\q<0)\/(mode=3/\0<=q)\/(mode=4/\(d-r<r\/(r=d-r/\0<=q)))\/(mode=5/\(d-r<r\/(r=d-r/\q % 2≠0))))
instance (mode q r d:Int):Decidable (tX mode q r d):=by unfold tX;infer_instance
def lI(mode q r d:Int):Int:=if tX mode q r d then q+1 else q
theorem lA(N:Int) (d:Nat) (mode:Int) (hd:0<d) (neg:Bool) (g:N=0\/neg=decide (N<0)) (hm:0<=mode/\mode<=5) :
 qE neg (Ys neg mode (N.natAbs / d) (N.natAbs % d) d)=lI mode (N / d) (N % d) d:=by
 have m:=Nat.div_add_mod N.natAbs d;have n:=Lac N.natAbs hd;obtain⟨a,ha⟩:∃a,N.natAbs / d=a:=⟨_,rfl⟩;obtain⟨b,hb⟩:∃a,N.natAbs % d=a:=⟨_,rfl⟩;rw[ha,hb]at m;rw[hb]at n;rw[ha,hb];by_cases hN:0<=N
 .have e1:N=(N.natAbs:Int):=by omega
  have q1:N / (d:Int)=(a:Int):=by grind
  have i:N % (d:Int)=(b:Int):=by grind
  rw[q1,i];have hn:b=0\/neg=false:=by
   grind
  have key:XQ neg mode a b d↔tX mode a b d:=by
   unfold XQ tX
   grind
  have o:∀k:Nat,(b=0->k=a)->qE neg k=(k:Int):=λk hk=>by
   unfold qE;rcases hn with h|h
   .have h0:a=0\/neg=false:=by
     rcases g with h'|h'
     .left;subst h';simp at ha;omega
     grind
    grind
   grind
  unfold Ys lI;by_cases c:XQ neg mode a b d
  .rw[if_pos c,if_pos (key.1 c)];rw[o _ (λl=>absurd c (by rw[l];unfold XQ;omega))];omega
  grind
 .have e1:N = -(N.natAbs:Int):=by omega
  have hn:neg=true:=by
   grind
  subst hn;have f:N = -((d:Int)*a+b):=by omega
  unfold qE;simp only[if_true];by_cases j:b=0
  .have q1:N / (d:Int) = -(a:Int):=by
    rw[f,j];simp only[Int.natCast_zero,Int.add_zero];rw[←Int.mul_neg,Int.mul_ediv_cancel_left _ (by omega)]
   have i:N % (d:Int)=0:=by
    rw[f,j];simp
   rw[q1,i];unfold Ys lI;rw[if_neg (by rw[j];unfold XQ;omega),if_neg (by simp[tX])]
  .have e:N=((d:Int)-b)+d*(-(a:Int)-1):=by grind
   have q1:N / (d:Int) = -(a:Int)-1:=by
    rw[e,Int.add_mul_ediv_left _ _ (by omega),Int.ediv_eq_zero_of_lt (by omega) (by omega)];omega
   have i:N % (d:Int)=(d:Int)-b:=by
    rw[e,Int.add_mul_emod_self_left,Int.emod_eq_of_lt (by omega) (by omega)]
   rw[q1,i];have key:XQ true mode a b d↔¬tX mode (-(a:Int)-1) ((d:Int)-b) d:=by
    unfold XQ tX at *
    grind
   grind[Ys,lI]
def mulS(a b mode:Int):Int×Int:=
 if¬(0<=mode/\mode<=5)then(0,1)else
 if(1000000000<a\/a < -1000000000)\/(1000000000<b\/b < -1000000000)then(0,3)else
 if 1000000000<lI mode (a*b / 1000000) (a*b % 1000000) 1000000\/lI mode (a*b / 1000000) (a*b % 1000000) 1000000 < -1000000000 then(0,3)else
 (lI mode (a*b / 1000000) (a*b % 1000000) 1000000,0)
theorem OV{a b:Int}(h1:¬(1000000000<a\/a < -1000000000)) (h2:¬(1000000000<b\/b < -1000000000)):-1000000000000000000<=a*b/\a*b<=1000000000000000000:=by
 have:=Tac (show a.natAbs<=1000000000 by omega) (show b.natAbs<=1000000000 by omega);rw[←rae]at this;omega
theorem sQ(a b mode:Int):xy a b mode=some (mulS a b mode):=by
 unfold xy mulS;rw[bw,kaa];by_cases hm:0<=mode/\mode<=5
 .rw[if_neg (by simp_all),if_neg (saa.2 hm),No (by omega) (by omega),or2 (No (by omega) (by omega))];by_cases hb:(1000000000<a\/a < -1000000000)\/(1000000000<b\/b < -1000000000)
  .simp_all
  .rw[if_neg (by simp_all),if_neg hb,rk];have c:=OV (λh=>hb (.inl h)) (λh=>hb (.inr h));generalize a*b=p at c⊢;rw[wid (by omega) (by omega)];have d:qE (!(decide (p<0)==decide ((1000000:Int)<0))) (Ys (!(decide (p<0)==decide ((1000000:Int)<0))) mode (p.natAbs / 1000000) (p.natAbs % 1000000) 1000000)=lI mode (p / 1000000) (p % 1000000) 1000000:=lA p 1000000 mode (by decide) (!(decide (p<0)==decide ((1000000:Int)<0))) (.inr (by simp)) hm;unfold JR;rw[if_neg (saa.2 hm),if_neg (by decide),if_neg (by omega)];simp only[kaa];rw[show(1000000:Int).natAbs=1000000 from rfl,d,if_neg (by simp),No (by omega) (by omega),kaa]
   grind
 simp_all
theorem modeO:(laa (α:=Bool) (if¬n<0 then some (decide (5<n))else some true) k)=k (decide (¬(0<=n/\n<=5))):=by
 grind
theorem uQ(mode q r d:Int):q<=lI mode q r d/\lI mode q r d<=q+1:=by grind[lI]
def frS(num den mode:Int):Int×Int:=
 if¬(0<=mode/\mode<=5)then(0,1)else
 if den=0 then(0,12)else
 if(1000000000000000<num\/num < -1000000000000000)\/(1000000000000000<den\/den < -1000000000000000)then(0,3)else
 if Ys (!(decide (num<0)==decide (den<0))) mode (num.natAbs*1000000 / den.natAbs) (num.natAbs*1000000 % den.natAbs) den.natAbs<=1000000000 then
  (qE (!(decide (num<0)==decide (den<0))) (Ys (!(decide (num<0)==decide (den<0))) mode (num.natAbs*1000000 / den.natAbs) (num.natAbs*1000000 % den.natAbs) den.natAbs),0)
 else(0,3)
theorem DQ{q:Nat}(neg:Bool) (mode:Int) (hr:r<d) (hd:d<9223372036854775808):Oo q r d neg mode=some (decide (XQ neg mode q r d)):=by
 unfold Oo;rw[wuN (n:=(d:Int)-r) (by omega) (by omega),R5,half];by_cases a:r=0
 .subst a;rw[if_pos (by rfl)];congr 1;symm;rw[decide_eq_false_iff_not];unfold XQ;omega
 .rw[if_neg (by omega)];unfold XQ;have hp:0<r:=by omega
  by_cases e0:mode=0
  .simp_all
  by_cases e1:mode=1
  .simp_all
  by_cases e3:mode=3
  .simp_all
  by_cases e4:mode=4
  .subst e4;simp;omega
  grind
theorem IE(h1:-9223372036854775808<n) (h2:n<9223372036854775808):aa .u64 (max n (aa .i64 (-n)))=((n.natAbs:Nat):Int):=by
 grind[wid,wuN]
theorem UC(num den mode:Int):nn num den mode=some (frS num den mode):=by
 unfold nn frS;rw[bw,kaa];by_cases hm:0<=mode/\mode<=5
 .rw[if_neg (by simp_all),if_neg (saa.2 hm)];by_cases e:den=0
  .simp_all
  .rw[if_neg e,if_neg e,No (by omega) (by omega),or2 (No (by omega) (by omega))];by_cases hb:(1000000000000000<num\/num < -1000000000000000)\/(1000000000000000<den\/den < -1000000000000000)
   .simp_all
   .rw[if_neg (by simp_all),if_neg hb,IE (by omega) (by omega),IE (by omega) (by omega)];have a:(¬(decide (num<0))=(decide (den<0)))↔(!(decide (num<0)==decide (den<0)))=true:=by
     simp
    generalize (!(decide (num<0)==decide (den<0)))=ng at a⊢;obtain⟨x,hx⟩:∃x,num.natAbs=x:=⟨_,rfl⟩;obtain⟨z,h⟩:∃x,den.natAbs=x:=⟨_,rfl⟩;rw[hx,h];have bx:x<=1000000000000000:=by omega
    have d:z<=1000000000000000/\0<z:=by omega
    rw[show(1000000:Int)=((1000000:Nat):Int)from rfl,JS (by omega) (by omega)];simp only[kaa];have b:x*1000000<=1000000000000000000000:=by omega
    generalize x*1000000=p at b⊢;by_cases g:z<=p / 18446744073709551616
    .rw[if_pos (by omega),if_neg];have f:=(Vy ng mode (p / z) (p % z) z).1;have h2:=LI d.2 g;omega
    .rw[if_neg (by omega),UY (by omega) (by omega)];simp only[kaa];have f:=Vy ng mode (p / z) (p % z) z;by_cases hq:p / z<=1000000000
     .rw[if_neg (by omega),DQ _ _ (Lac _ d.2) (by omega),wid (n:=((p / z:Nat):Int)) (by omega) (by omega),wid (n:=((p / z:Nat):Int)+1) (by omega) (by omega)];simp only[kaa,decide_eq_true_eq];have hfin:∀R:Nat,R<=1000000001->(if(1000000000:Int)<(R:Int)then some ((0:Int),(3:Int))else laa (α:=Int) (if¬(decide (num<0))=(decide (den<0))then some (aa .i64 (-(R:Int)))else some (R:Int)) λc=>some (c,0))=some (if R<=1000000000 then(qE ng R,0)else(0,3)):=by
       intro R hR;by_cases hr:R<=1000000000
       .rw[if_neg (by omega),if_pos hr];unfold qE;by_cases hn:ng=true
        .rw[if_pos (a.2 hn),if_pos hn,kaa,wid (by omega) (by omega)]
        simp_all
       grind
      grind[Ys]
     grind
 simp_all
def rtS(c unit mode:Int):Int×Int:=
 if¬(0<=mode/\mode<=5)then(0,1)else
 if unit<1 then(0,12)else
 if(1000000000000000<c\/c < -1000000000000000)\/1000000000000000<unit then(0,3)else
 if 1000000000000000<qE (decide (c<0)) (Ys (decide (c<0)) mode (c.natAbs / unit.natAbs) (c.natAbs % unit.natAbs) unit.natAbs)*unit\/qE (decide (c<0)) (Ys (decide (c<0)) mode (c.natAbs / unit.natAbs) (c.natAbs % unit.natAbs) unit.natAbs)*unit < -1000000000000000 then(0,3)else
 (qE (decide (c<0)) (Ys (decide (c<0)) mode (c.natAbs / unit.natAbs) (c.natAbs % unit.natAbs) unit.natAbs)*unit,0)
theorem O3{c unit:Int}{ng:Bool}(hc:¬(1000000000000000<c\/c < -1000000000000000)) (hu:1<=unit/\unit<=1000000000000000):-2000000000000000<=qE ng (Ys ng mode (c.natAbs / unit.natAbs) (c.natAbs % unit.natAbs) unit.natAbs)*unit/\qE ng (Ys ng mode (c.natAbs / unit.natAbs) (c.natAbs % unit.natAbs) unit.natAbs)*unit<=2000000000000000:=by
 have a:=(Vy ng mode (c.natAbs / unit.natAbs) (c.natAbs % unit.natAbs) unit.natAbs).2;have h2:(qE ng (Ys ng mode (c.natAbs / unit.natAbs) (c.natAbs % unit.natAbs) unit.natAbs)*unit).natAbs<=2000000000000000:=by
  rw[rae,sgn_abs];have h3:=Nat.mul_le_mul_right unit.natAbs a;have h4:=Nat.div_mul_le_self c.natAbs unit.natAbs
  grind
 omega
theorem or2'{a b:Prop} [Decidable a] [Decidable b] :(laa (α:=Bool) ((some (decide a)).bind λx=>if x=false then some (decide b)else some true) k)=k (decide (a\/b)):=by
 grind
theorem nE(c unit mode:Int):Mo c unit mode=some (rtS c unit mode):=by
 unfold Mo rtS;rw[mq,kaa];by_cases hm:0<=mode/\mode<=5
 .rw[if_neg (by simp_all),if_neg (saa.2 hm)];by_cases d:unit<1
  .simp_all
  .rw[if_neg d,if_neg d,ei (by omega) (by omega),or2'];by_cases hb:(1000000000000000<c\/c < -1000000000000000)\/1000000000000000<unit
   .simp_all
   .rw[if_neg (by simp_all),if_neg hb,rk];have a:=O3 (c:=c) (unit:=unit) (mode:=mode) (ng:=decide (c<0)) (λh=>hb (.inl h)) (by omega);unfold JR;rw[if_neg (saa.2 hm),if_neg (by omega),if_neg (by omega)];have hu:decide (unit<0)=false:=by grind
    simp only[kaa,hu];have b:(!(decide (c<0)==false))=decide (c<0):=by simp
    rw[b];generalize qE (decide (c<0)) (Ys (decide (c<0)) mode (c.natAbs / unit.natAbs) (c.natAbs % unit.natAbs) unit.natAbs)*unit=q at a⊢;rw[if_neg (by simp),wid (by omega) (by omega),ei (by omega) (by omega),kaa]
    grind
 simp_all
theorem BS{σ β ρ:Type}{step:σ->Option (Ex σ β ρ)}(I:σ->Prop) (a:σ->Nat) (Q:β->Prop) (h:∀s,I s->(∃s',step s=some (.go s')/\I s'/\a s'<a s)\/∃b,step s=some (.brk b)/\Q b) :
 ∀(n:Nat) (s:σ),a s<=n->I s->∃b,ea step s=some (.inl b)/\Q b
 |0,s,hn,hi=>by
  grind[Va]
 |n+1,s,hn,hi=>by
  rcases h s hi with⟨s',c,h2,h3⟩|⟨b,c,h2⟩
  .obtain⟨b,h4,h5⟩:=BS I a Q h n s' (by omega) h2
   grind[Jc]
  grind[Va]
theorem wu(h1:0<=n) (h2:n<9223372036854775808):aa .u64 n=n:=by
 grind[aa]
theorem mid{i j:Nat}(h:i+j<4611686018427387904):aa .i64 (Int.fdiv (aa .u64 (aa .i64 ((i:Int)+(j:Int)))) 2)=(((i+j) / 2:Nat):Int):=by
 grind[wid,wu]
theorem wF(x y:Int):cmp_Less_int x y=some (decide (x<y)):=by
 grind[cmp_Less_int,cmp_isNaN_int]
theorem O4{t:Int}(hq:q.Pairwise (·<·)) (hl:q.length<=1048576):∃(k:Nat) (b:Bool),Sa q t=some ((k:Int),b)/\k<=q.length/\(∀i (hi:i<q.length),i<k->q[i]<t)/\∀i (hi:i<q.length),k<=i->t<=q[i]:=by
 have f:=Iab.1 hq;unfold Sa;obtain⟨b,g,k,rfl,h2,a,c⟩:=BS (step:=qb q t) (λs=>∃i j:Nat,s=((i:Int),(j:Int))/\i<=j/\j<=q.length/\(∀p (f:p<q.length),p<i->q[p]<t)/\∀p (f:p<q.length),j<=p->t<=q[p]) (λs=>(s.2-s.1).toNat) (λb=>∃k:Nat,b=(k:Int)/\k<=q.length/\(∀i (hi:i<q.length),i<k->q[i]<t)/\∀i (hi:i<q.length),k<=i->t<=q[i]) (by
  rintro s ⟨i,j,rfl,a1,a2,a3,a4⟩;unfold qb;dsimp only;by_cases hij:i<j
  .left;rw[if_pos (by omega),mid (by omega),Ea (show(i+j) / 2<q.length by omega),kaa,wF,kaa];by_cases hx:q[(i+j) / 2]'(by omega)<t
   .refine⟨_,by rw[if_pos (by simp_all),va (by omega)],⟨(i+j) / 2+1,j,rfl,by omega,a2,λp d e=>?_,a4⟩,by omega⟩
    grind
   .refine⟨_,by grind,⟨i,(i+j) / 2,rfl,by omega,by omega,a3,λp d e=>?_⟩,by omega⟩
    grind
  grind) q.length (0,(q.length:Int)) (by simp) ⟨0,q.length,rfl,by omega,by omega,by omega,by omega⟩
 rw[g,kaa];dsimp only;unfold Jh;by_cases hk:k<q.length
 .rw[if_pos (by omega),Ea hk,kaa];by_cases he:q[k]=t
  .exact⟨k,true,by grind,h2,a,c⟩
  .exact⟨k,false,by grind,h2,a,c⟩
 .exact⟨k,false,by grind,h2,a,c⟩
def vy(to:Int):Int->List Int->List GDateRange
 |a,[]=>[⟨a,to⟩]
 |a,x::l=>⟨a,x⟩::vy to x l
theorem sJ{to:Int}:∀{a:Int}{l:List Int},(vy to a l).length=l.length+1
 |_,[]=>rfl
 |_,x::l=>by simp[vy,sJ (a:=x) (l:=l)]
def inside(r:GDateRange) (x:Int):Bool:=decide (r.From<x)&&decide (x<r.To)
theorem mF{r:GDateRange}(hq:q.Pairwise (·<·)) (hl:q.length<=65536) (hr:0<=r.From/\r.From<r.To/\r.To<=1000000):On r q=some (vy r.To r.From (q.filter (inside r))):=by
 unfold On;rw[wid (by omega) (by omega)];obtain⟨k,b,e,h2,h3,h4⟩:=O4 (t:=r.From+1) hq (by omega);rw[e,kaa];dsimp only;have hp:=Iab.1 hq;have hf:q.filter (inside r)=(q.drop k).filter λx=>decide (x<r.To):=by
  conv=>lhs;rw[←List.take_append_drop k q]
  rw[Oab];have e1:(q.take k).filter (inside r)=[]:=by
   rw[Uac];intro x hx;obtain⟨i,hi,rfl⟩:=waa hx
   grind[inside]
  rw[e1,Qaa];refine List.filter_congr λx hx=>?_;obtain⟨i,hi,rfl⟩:=waa hx
  grind[inside]
 rw[hf];obtain⟨⟨s2,h⟩,g1,g2,g3⟩:=BS (step:=Qo r q) (λs=>∃j:Nat,s.2.2=(j:Int)/\j<=q.length/\s.2.1.length<=j/\vy r.To r.From ((q.drop k).filter λx=>decide (x<r.To))=s.2.1++vy r.To s.1 ((q.drop j).filter λx=>decide (x<r.To))) (λs=>((q.length:Int)-s.2.2).toNat) (λb=>b.2.length<=q.length/\vy r.To r.From ((q.drop k).filter λx=>decide (x<r.To))=b.2++[⟨b.1,r.To⟩]) (by
  rintro⟨s2,h,s4⟩ ⟨j,d,f,g,c⟩;dsimp only at d f g c;subst d;unfold Qo;dsimp only;by_cases hj:j<q.length
  .rw[if_pos (by omega),Ea hj,kaa,kaa];have hd:q.drop j=q[j]::q.drop (j+1):=mab hj;by_cases hx:q[j]<r.To
   .left;refine⟨_,by rw[if_pos (by grind),kaa,Kh (by grind),kaa,va (by omega)],⟨j+1,rfl,by omega,by grind,?_⟩,by grind⟩
    grind[vy]
   .right;refine⟨_,by rw[if_neg (by grind)],by grind,?_⟩;dsimp only;have:(q.drop j).filter (λx=>decide (x<r.To))=[]:=by
     rw[Uac];intro x a;obtain⟨i,hi,rfl⟩:=waa a
     grind
    rw[c,this];rfl
  .right;refine⟨_,by rw[if_neg (by omega)];rfl,by grind,?_⟩;dsimp only;rw[c,List.drop_eq_nil_of_le (by omega)];rfl) q.length (r.From,[],(k:Int)) (by simp) ⟨k,rfl,h2,by simp,by simp⟩
 grind[Kh]
theorem GY{a b:List Int}(ha:a.length<=1048576) (hb:b.length<=1048576):mg [a,b]=some (a++b):=by
 unfold mg;have e1:ea (qg [a,b]) (0,0)=some (.inl ((a.length:Int)+b.length)):=by
  rw[Jc (s':=((a.length:Int),1)),Jc (s':=((a.length:Int)+b.length,2)),Va (b:=(a.length:Int)+b.length)]
  all_goals grind[qg,idx,wid]
 rw[e1,kaa];dsimp only;have e2:lg ((a.length:Int)+b.length)=some []:=by
  unfold lg;rw[if_neg (by omega)];have w0:aa .i64 (0-0)=0:=wid (by omega) (by omega);rw[w0,Int.sub_zero,wid (by omega) (by omega)]
  grind[mka,Fq]
 rw[e2,kaa];have e3:ea (og [a,b]) ([],0)=some (.inl (a++b)):=by
  rw[Jc (s':=(a,1)),Jc (s':=(a++b,2)),Va (b:=a++b)]
  all_goals grind[og,idx,Kh,wid]
 simp_all
def iR(l:GLaw):Prop:=∀t∈l.Tables,t.Rows.length<=1125899906842624
theorem G0{σ1 σ2 β1 β2 ρ1 ρ2:Type}{s1:σ1->Option (Ex σ1 β1 ρ1)}{s2:σ2->Option (Ex σ2 β2 ρ2)}(I:σ1->σ2->Prop) (a:σ1->Nat) (QB:β1->β2->Prop) (QR:ρ1->ρ2->Prop)
 (h:∀x y,I x y->(∃d e,s1 x=some (.go d)/\s2 y=some (.go e)/\I d e/\a d<a x)\/(∃b c,s1 x=some (.brk b)/\s2 y=some (.brk c)/\QB b c)\/∃b c,s1 x=some (.ret b)/\s2 y=some (.ret c)/\QR b c) :
 ∀(n:Nat) x y,a x<=n->I x y->(∃b c,ea s1 x=some (.inl b)/\ea s2 y=some (.inl c)/\QB b c)\/∃b c,ea s1 x=some (.inr b)/\ea s2 y=some (.inr c)/\QR b c:=by
 intro n
 induction n with
 |zero=>
  grind[Va,kr]
 |succ n ih=>
  grind[Jc,Va,kr]
def N0(date key:Int) (r:GRow):Bool:=rD r.Valid date&&(decide (r.Lo<=key)&&decide (key<r.Hi))
theorem PB(r:GRow) (date key:Int):Hf r date key=some (N0 date key r):=by
 grind[Hf,N0,Si]
noncomputable def FD(t:GTable) (date key:Int):Int×Bool:=
 match ff (λi=>if(t.Rows[i]?.any (N0 date key))=true then some ((i:Int),true)else none) t.Rows.length with
 |some v=>v
 |none=>(0,false)
theorem mH{t:GTable}(hl:t.Rows.length<=1048576) (date key:Int):yq t date key=some (FD t date key):=by
 have a:ea (Eb t.Rows (λy=>Hf y date key)) 0=some (fi () (ff (λi=>if(t.Rows[i]?.any (N0 date key))=true then some ((i:Int),true)else none) t.Rows.length)):=
  kh (λi=>(i:Int)) _ t.Rows.length () (λi hi _=>by
   unfold Eb;rw[if_pos (by omega),Ea hi,naa hi]
   grind[zE,PB,va]) (λ_=>by grind[Eb])
 unfold yq Nb FD;rw[a,kaa];cases h:ff (λi=>if(t.Rows[i]?.any (N0 date key))=true then some ((i:Int),true)else none) t.Rows.length<;>rfl
theorem E0{t:GTable}{date key:Int}(h:(FD t date key).2=true):∃i:Nat,(FD t date key).1=(i:Int)/\i<t.Rows.length:=by
 unfold FD at h⊢;split
 .rename_i v hv;obtain⟨i,h1,h2,-⟩:=vb.1 hv
  grind
 simp_all
def aM(len n:Nat):Option (Nat×Nat):=if 1000000000000000<len*n / 1000000 then none else some (len*n / 1000000,len*n % 1000000)
def nP(neg:Bool):Option (Nat×Nat)->Int×Int×Bool
 |none=>(0,0,false)
 |some (q,r)=>(qE neg q,qE neg r,true)
theorem Fy(a:len<=1000000000000000) (h2:-1000000000<=n/\n<=1000000000):si len n=some (nP (decide (n<0)) (aM len n.natAbs)):=by
 unfold si;have e:(if n<0 then some (aa .u64 (-(aa .u64 n)))else some (aa .u64 n))=some (n.natAbs:Int):=by
  have:=Jg (n:=n) (by omega) (by omega);exact this
 rw[e,kaa,wuN (n:=(len:Int)) (by omega) (by omega),JS (by omega) (by omega),kaa];have b:len*n.natAbs<=1000000000000000*1000000000:=Tac a (by omega);unfold aM;generalize len*n.natAbs=p at b⊢;dsimp only;rw[if_neg (by omega),show(1000000:Int)=((1000000:Nat):Int)from rfl,UY (by omega) (by omega),kaa];dsimp only;by_cases hq:1000000000000000<p / 1000000
 .rw[if_pos (by omega),if_pos hq];rfl
 .rw[if_neg (by omega),if_neg hq,wid (n:=((p / 1000000:Nat):Int)) (by omega) (by omega),wid (n:=((p % 1000000:Nat):Int)) (by omega) (by omega)];by_cases hn:n<0
  .rw[if_pos hn,wid (by omega) (by omega),wid (by omega) (by omega),decide_eq_true hn];rfl
  .rw[if_neg hn,decide_eq_false hn];rfl
theorem oP{neg:Bool}{n:Nat}:-1000000000000000<=(nP neg (aM len n)).1/\(nP neg (aM len n)).1<=1000000000000000/\-1000000<=(nP neg (aM len n)).2.1/\(nP neg (aM len n)).2.1<=1000000:=by
 grind[aM,nP,qE]
def rsS(w m mode:Int):Int:=lI mode ((w*1000000+m) / 1000000) ((w*1000000+m) % 1000000) 1000000
theorem I3{q r e:Int}(he:e % 2=0) (h:(0<=q+e)↔(0<=q)):lI mode (q+e) r 1000000=lI mode q r 1000000+e:=by
 have:tX mode (q+e) r 1000000↔tX mode q r 1000000:=by unfold tX;omega
 grind[lI]
theorem YC{w:Int}(hm:0<=mode/\mode<=5) (hw:-2000000000000000000<=w/\w<=2000000000000000000) (hr:-1000000000000<=m/\m<=1000000000000) :
 Bn w m mode=some (if 1000000000000000<rsS w m mode\/rsS w m mode < -1000000000000000 then(0,3)else(rsS w m mode,0)):=by
 have a:=Int.mul_tdiv_add_tmod m 1000000;have hm1:=Int.tmod_lt_of_pos m (show(0:Int)<1000000 by omega);have hm2:-1000000<Dab m 1000000:=by
  grind
 unfold Bn;rw[wid (n:=Zaa m 1000000) (by omega) (by omega),wid (n:=w+Zaa m 1000000) (by omega) (by omega)];have f:w*1000000+m=(w+Zaa m 1000000)*1000000+Dab m 1000000:=by omega
 unfold rsS;rw[f];have hW:-3000000000000000000<=w+Zaa m 1000000/\w+Zaa m 1000000<=3000000000000000000:=by omega
 generalize w+Zaa m 1000000=W at *;generalize Dab m 1000000=M at *;clear a f;have b:=uQ mode ((W*1000000+M) / 1000000) ((W*1000000+M) % 1000000) 1000000;by_cases hb:W < -2000000000000000\/2000000000000000<W
 .grind
 .rw[if_pos (by omega),kaa,if_neg (by simp_all)];have d:Dab W 2=if 0<=W then W % 2 else -(-W % 2):=by
   grind
  obtain⟨P,hP,hPe⟩:∃P,(if 1<W then some (aa .i64 ((Dab W 2)+2))else if W<(-1)then some (aa .i64 ((Dab W 2)-2))else some (Dab W 2))=some P/\((1<W/\P=W % 2+2)\/(W < -1/\P = -(-W % 2)-2)\/(-1<=W/\W<=1/\P=W)):=by
   rw[d];by_cases e:1<W
   .rw[if_pos e,if_pos (by omega),wid (by omega) (by omega)];simp_all
   .rw[if_neg e];by_cases h2:W < -1
    .rw[if_pos h2,if_neg (by omega),wid (by omega) (by omega)];simp_all
    .rw[if_neg h2];grind
  rw[hP,kaa];have hPb:-4<=P/\P<=4:=by omega
  rw[wid (n:=P*1000000) (by omega) (by omega),wid (n:=P*1000000+M) (by omega) (by omega),rk];unfold JR;rw[if_neg (saa.2 hm),if_neg (by decide),if_neg (by omega)];obtain⟨Z,g⟩:∃Z,P*1000000+M=Z:=⟨_,rfl⟩;rw[g];have h:qE (!(decide (Z<0)==decide ((1000000:Int)<0))) (Ys (!(decide (Z<0)==decide ((1000000:Int)<0))) mode (Z.natAbs / 1000000) (Z.natAbs % 1000000) 1000000)=lI mode (Z / 1000000) (Z % 1000000) 1000000:=lA Z 1000000 mode (by decide) (!(decide (Z<0)==decide ((1000000:Int)<0))) (.inr (by simp)) hm;simp only[kaa];rw[show(1000000:Int).natAbs=1000000 from rfl,h,if_neg (by simp)];have c:lI mode ((W*1000000+M) / 1000000) ((W*1000000+M) % 1000000) 1000000=lI mode (Z / 1000000) (Z % 1000000) 1000000+(W-P):=by
   have e1:(W*1000000+M) / 1000000=Z / 1000000+(W-P):=by omega
   have e2:(W*1000000+M) % 1000000=Z % 1000000:=by omega
   rw[e1,e2];exact I3 (by omega) (by omega)
  have hrd2:=uQ mode (Z / 1000000) (Z % 1000000) 1000000;rw[c]at b⊢;generalize lI mode (Z / 1000000) (Z % 1000000) 1000000=R at *;rw[wid (n:=W-P) (by omega) (by omega),wid (n:=W-P+R) (by omega) (by omega),Int.add_comm (W-P) R]
  grind
structure RowsN (t:GTable):Prop where
 len:t.Rows.length<=150
 n:∀r∈t.Rows,-1000000000<=r.N/\r.N<=1000000000
variable {t:GTable}
theorem OO(ht:t.Value.Kind=4->RowsN t) (date c mode:Int):∃p,xn t date c mode=some p/\(p.2=0->-1000000000000000<=p.1/\p.1<=1000000000000000):=by
 unfold xn;rw[modeO];by_cases hm:¬(0<=mode/\mode<=5)
 .simp_all
 have hm:=Gac.1 hm;rw[decide_eq_false (p:=¬(0<=mode/\mode<=5)) (λh=>h hm),if_neg (show¬(false=true)from λh=>nomatch h)];have f:∀{α:Type} (k:Bool->Option α),(laa (α:=Bool) (if t.Key.Kind=3/\t.Key.Enum=0 then some (!((t.Value.Kind==4)&&(t.Value.Enum==0)))else some true) k)=k (!decide ((t.Key.Kind=3/\t.Key.Enum=0)/\(t.Value.Kind=4/\t.Value.Enum=0))):=by
  grind
 rw[f];by_cases hk:¬((t.Key.Kind=3/\t.Key.Enum=0)/\(t.Value.Kind=4/\t.Value.Enum=0))
 .rw[decide_eq_false hk,if_pos (show(!false)=true from rfl)];simp
 have hk:=Gac.1 hk;rw[decide_eq_true hk,if_neg (show¬((!true)=true)from λh=>nomatch h)];have ht:=ht hk.2.1;by_cases hc:1000000000000000<c\/c < -1000000000000000
 .have h2:(if¬c < -1000000000000000 then some (decide (1000000000000000<c))else some true)=some true:=by
   grind
  simp_all
 .rw[if_pos (by omega),kaa,if_neg (by simp_all)];have e:=G0 (s1:=uj t date c) (s2:=uj t date c) (λx y=>x=y/\∃i:Nat,x.2.2=(i:Int)/\i<=t.Rows.length/\-(1000000000000000*(i:Int))<=x.1/\x.1<=1000000000000000*(i:Int)/\-(1000000*(i:Int))<=x.2.1/\x.2.1<=1000000*(i:Int)) (λx=>(t.Rows.length-x.2.2).toNat) (λx y=>x=y/\-150000000000000000<=x.1/\x.1<=150000000000000000/\-150000000<=x.2/\x.2<=150000000) (λx y=>x=(0,3)/\y=(0,3)) (by
   rintro⟨a,b,j⟩ y ⟨rfl,i,g,o,q,s,u,z⟩;dsimp only at g o q s u z;subst g;have hl:=ht.len;unfold uj;dsimp only;by_cases hi:i<t.Rows.length
   .have hN:=ht.n _ (taa hi);rw[if_pos (by omega),Ea hi];simp only[kaa,Si];generalize t.Rows[i]=r at hN⊢;by_cases l:rD r.Valid date=true/\¬(min r.Hi c<=max r.Lo 0)
    .rw[if_pos l.1];have q1:decide (min r.Hi c<=max r.Lo 0)=false:=by simp_all
     rw[q1];simp only[kaa,Eaa,if_false];rw[wid (by omega) (by omega)];obtain⟨len,d⟩:=Eab (show 0<=min r.Hi c-max r.Lo 0 by omega);rw[d,Fy (by omega) hN];have hb:=oP (neg:=decide (r.N<0)) (len:=len) (n:=r.N.natAbs);generalize nP (decide (r.N<0)) (aM len r.N.natAbs)=v at hb⊢;obtain⟨A,B,C⟩:=v;simp only[kaa]at hb⊢;cases C
     .simp
     .left;rw[wid (n:=a+A) (by omega) (by omega),wid (n:=b+B) (by omega) (by omega),va (by omega)];refine⟨_,_,rfl,rfl,⟨rfl,i+1,rfl,by omega,?_⟩,?_⟩
      all_goals grind
    .have q1:(if rD r.Valid date=true then some (decide (min r.Hi c<=max r.Lo 0))else some true)=some true:=by
      simp_all
     have q2:(if¬(min r.Hi c<=max r.Lo 0)then some (!rD r.Valid date)else some true)=some true:=by
      grind
     rw[q1];simp only[kaa,if_true];left;rw[va (by omega)];refine⟨_,_,rfl,rfl,⟨rfl,i+1,rfl,by omega,?_⟩,?_⟩
     all_goals grind
   grind) t.Rows.length (0,0,0) (0,0,0) (by simp) ⟨rfl,0,rfl,by omega,by simp⟩
  rcases e with⟨x,y,g1,g2,rfl,g3⟩|⟨x,y,g1,g2,rfl,rfl⟩
  .rw[g1];obtain⟨w,m⟩:=x;dsimp only at g3;simp only[kaa];rw[YC hm (by omega) (by omega)];simp only[kaa];by_cases h:1000000000000000<rsS w m mode\/rsS w m mode < -1000000000000000
   .simp_all
   grind
  simp_all
def Nc(v:GValue):Prop:=
 (v.Kind=1/\v.Enum=0/\0<=v.N/\v.N<=1)\/(v.Kind=2/\v.Enum=0/\-1000000000000<=v.N/\v.N<=1000000000000)\/(v.Kind=3/\v.Enum=0/\-1000000000000000<=v.N/\v.N<=1000000000000000)\/
 (v.Kind=4/\v.Enum=0/\-1000000000<=v.N/\v.N<=1000000000)\/(v.Kind=5/\v.Enum=0/\0<=v.N/\v.N<=109572)\/(v.Kind=6/\0<=v.Enum/\v.Enum<8/\0<=v.N/\v.N<16)
instance (v:GValue):Decidable (Nc v):=by unfold Nc;infer_instance
def vA(v:GValue):Bool:=decide (Nc v)
theorem pS{a b:Prop} [Decidable a] [Decidable b]:(laa (α:=Bool) (if a then some (decide b)else some false) λj=>some j)=some (decide (a/\b)):=by
 grind
theorem iteE{a:Prop} [Decidable a] {b:Bool}:(if¬a then some b else some false)=some (!decide a&&b):=by
 grind
theorem jd(v:GValue):Ob v=some (vA v):=by
 obtain⟨K,E,N⟩:=v;unfold Ob vA Nc;simp only[pS,iteE,kaa]
 grind[decide]
theorem Nc.range(h:Nc v):-1000000000000000<=v.N/\v.N<=1000000000000000/\1<=v.Kind/\v.Kind<=6:=by unfold Nc at h;omega
def wfS(n:GNode):Bool:=
 decide (n.N=0\/Fj n.Op=true)&&decide ((14<=n.Op/\n.Op<=16->0<=n.N/\n.N<=5)/\(n.Op=34->0<=n.N/\n.N % 8<=5)/\(n.Op=6->0<=n.N))
theorem sw_s{n:GNode}:(laa (α:=Bool) (if n.Op=14 then some true else if n.Op=15 then some true else some (n.Op==16)) λh=>
 if h=true then laa (α:=Bool) (if 0<=n.N then some (decide (n.N<=5))else some false) λe=>some e
 else if n.Op=34 then laa (α:=Bool) (if 0<=n.N then some (decide ((Dab n.N 8)<=5))else some false) λf=>some f
 else if n.Op=6 then some (decide (0<=n.N))else some true)=some (decide ((14<=n.Op/\n.Op<=16->0<=n.N/\n.N<=5)/\(n.Op=34->0<=n.N/\n.N % 8<=5)/\(n.Op=6->0<=n.N))):=by
 obtain⟨op,N⟩:=n;dsimp only;simp only[pS];by_cases b:op=14
 .simp_all
 by_cases c:op=15
 .simp_all
 by_cases d:op=16
 .simp_all
 by_cases a:op=34
 .subst a;simp
  grind
 by_cases g:op=6
 .simp_all
 simp[b,c,d,a,g];omega
theorem bU(h:1<=op/\op<=39):0<=Xe op:=by
 grind[Xe]
theorem TI(n:GNode):Hl n=some (decide (1<=n.Op/\n.Op<=39)&&wfS n):=by
 unfold Hl;rw[Xn,kaa,sw_s];by_cases h:1<=n.Op/\n.Op<=39
 .have:=bU h;rw[if_pos (by omega),kc h,decide_eq_true h,tac];unfold wfS;by_cases hN:n.N=0
  .grind
  .cases hu:Fj n.Op<;>simp[hN]
 grind[kC]
def VA(n:GNode) (env:GEnv):Bool:=
 if n.Op=7 then decide (0<=n.N/\n.N<(env.Inputs.length:Int))else
 if n.Op=8 then decide (0<=n.N/\n.N<(env.Defs.length:Int))&&!(((env.Defs[n.N.toNat]?).map (·.Kind)).getD 0==0)else
 if n.Op=33 then decide (0<=n.N/\n.N<(env.Tables.length:Int))else
 if n.Op=34 then decide (aa .i64 (Zaa n.N 8)<(env.Tables.length:Int))else
 if 36<=n.Op/\n.Op<=39 then decide (0<=n.N/\n.N<(env.MemberTypes.length:Int))else true
theorem mem4:(laa (α:=Bool) (if op=36 then some true else if op=37 then some true else if op=38 then some true else some (op==39)) k)=k (decide (36<=op/\op<=39)):=by
 by_cases a:op=36
 .simp_all
 by_cases h2:op=37
 .simp_all
 by_cases b:op=38
 .simp_all
 by_cases h4:op=39
 .simp_all
 rw[if_neg a,if_neg h2,if_neg b,kaa]
 grind[decide_eq_false_iff_not]
theorem Fz(n:GNode) (env:GEnv):Wr n env=some (VA n env):=by
 unfold Wr VA;simp only[mem4,pS];split
 .rfl
 split
 .by_cases a:0<=n.N
  .by_cases b:n.N<(env.Defs.length:Int)
   .rw[if_pos a,if_pos b,Zn a b,naa (by omega)];grind
   grind
  grind
 grind
structure EnvOk (env:GEnv):Prop where
 tabs:∀t∈env.Tables,t.Rows.length<=150/\(t.Value.Kind=4->RowsN t)
 mem:env.Members.length<=1048576
noncomputable def uh(n:GNode) (args:List GValue) (env:GEnv):Option (GValue×Int):=
 (oa n args env).bind λa=>if a=false then some (⟨0,0,0⟩,8)else
 (Ba n args env).bind λx=>if¬x.2=0 then some (⟨0,0,0⟩,x.2)else
 if vA x.1=false then some (⟨0,0,0⟩,3)else some (x.1,0)
def Both(e r:Option (GValue×Int)):Prop:=∃p,e=some p/\r=some p/\(p.2=0->Nc p.1)
theorem BI{x:Option (GValue×Int)}:(x.bind λy=>some (y.1,y.2))=x:=by cases x<;>rfl
def ZM(v:GValue):GValue×Int:=if vA v=true then(v,0)else(⟨0,0,0⟩,3)
theorem made_pl(v:GValue):(ZM v).2=0->Nc (ZM v).1:=by
 grind[ZM,vA]
theorem JY{n:GNode}{env:GEnv}(h:oa n args env=some true) {e:Int}(hc:Ba n args env=some (v,e)):uh n args env=some (if e=0 then ZM v else(⟨0,0,0⟩,e)):=by
 grind[uh,ZM]
theorem IY{n:GNode}{env:GEnv}(h:oa n args env=some false):uh n args env=some (⟨0,0,0⟩,8):=by
 grind[uh]
theorem Ei(k:Int):vh k=some (decide (2<=k/\k<=4)):=by
 unfold vh;by_cases h2:k=2
 .simp_all
 by_cases a:k=3
 .simp_all
 rw[if_pos h2,if_pos a,kaa]
 grind[decide_eq_false]
theorem Wn(b:Bool):Rg b=some ⟨1,0,if b=true then 1 else 0⟩:=by cases b<;>rfl
theorem Xx(v:GValue) (t:GType):Vn v t=some (vA v&&(decide (v.Kind=t.Kind)&&decide (v.Enum=t.Enum))):=by
 grind[Vn,jd]
def Au(e:Option (GValue×Int)):Prop:=∃p,e=some p/\(p.2=0->Nc p.1)
theorem Ej{n:GNode}{env:GEnv}(h:oa n args env=some true) {e:Int}(hc:Ba n args env=some (v,e)):Au (uh n args env):=by
 rw[JY h hc];by_cases a:e=0
 .rw[if_pos a];exact⟨_,rfl,made_pl v⟩
 .rw[if_neg a];exact⟨_,rfl,λh2=>absurd h2 a⟩
theorem tt{n:GNode}{env:GEnv}(h:oa n args env=some false):Au (uh n args env):=by
 rw[IY h];exact⟨_,rfl,λh2=>absurd h2 (by decide)⟩
theorem tcore_6{env:GEnv}:Au (uh ⟨6,N⟩ [] env):=by
 exact Ej (v:=⟨6,aa .i64 (Zaa N 16),Dab N 16⟩) (e:=0) (by simp[oa]) (by simp[Ba])
theorem tcore_7{env:GEnv}(hf:VA ⟨7,N⟩ env=true):Au (uh ⟨7,N⟩ [] env):=by
 simp only[VA,if_true,decide_eq_true_eq]at hf;have hi:idx env.Inputs N=some (env.Inputs[N.toNat]'(by omega)):=Zn hf.1 hf.2;generalize env.Inputs[N.toNat]'(by omega)=v at hi;by_cases hv:vA v=true
 .exact Ej (v:=v) (e:=0) (by grind[oa,jd]) (by grind[Ba])
 grind[oa,tt,jd]
theorem tcore_8{env:GEnv}(hf:VA ⟨8,N⟩ env=true):Au (uh ⟨8,N⟩ [] env):=by
 simp only[VA,uaa,if_false,if_true,Bool.and_eq_true,decide_eq_true_eq]at hf;have hi:idx env.Defs N=some (env.Defs[N.toNat]'(by omega)):=Zn hf.1.1 hf.1.2;generalize env.Defs[N.toNat]'(by omega)=v at hi;by_cases hv:vA v=true
 .exact Ej (v:=v) (e:=0) (by grind[oa,jd]) (by grind[Ba])
 grind[oa,tt,jd]
theorem tcore_9{env:GEnv}:Au (uh ⟨9,N⟩ [] env):=
 Ej (v:=⟨5,0,env.Date⟩) (e:=0) (by simp[oa]) (by simp[Ba])
theorem N5{env:GEnv}:Au (uh ⟨35,N⟩ [] env):=
 Ej (v:=⟨2,0,(env.Members.length:Int)⟩) (e:=0) (by simp[oa]) (by simp[Ba])
theorem G5{env:GEnv}(ha:Nc a):Au (uh ⟨10,N⟩ [a] env):=by
 have hr:=ha.range;by_cases hn:2<=a.Kind/\a.Kind<=4
 .exact Ej (v:=⟨a.Kind,0,-a.N⟩) (e:=0) (by grind[oa,Sb,Xl,Ei]) (by grind[Ba,ep,Xl,wid])
 .have hd:decide (2<=a.Kind/\a.Kind<=4)=false:=decide_eq_false hn;exact tt (by simp only[oa,uaa,if_false,kaa,Baa,Eaa,Xl,Sb,Ei,hd,qaa,Aaa,if_true,Jab,Qae])
theorem H5{env:GEnv}(ha:Nc a):Au (uh ⟨25,N⟩ [a] env):=by
 by_cases hn:a.Kind=1
 .exact Ej (v:=⟨1,0,if(a.N==0)=true then 1 else 0⟩) (e:=0) (by grind[oa,Sb,Xl]) (by simp only[Ba,uaa,if_false,kaa,Baa,Eaa,Xl,ep,Wn,qaa,Aaa,if_true,Jab,Qae])
 grind[oa,Sb,tt,Xl]
theorem nH{env:GEnv}(b:op=31\/op=32) (ha:Nc a):Au (uh ⟨op,N⟩ [a] env):=by
 by_cases hn:a.Kind=5
 .have c:0<=a.N/\a.N<=109572:=by unfold Nc at ha;omega
  obtain⟨y,m,d,f⟩:∃y m d,Qk a.N=some (y,m,d):=by
   obtain⟨n,m,k,f⟩:=oL c.1 c.2;exact⟨_,_,_,Ft f⟩
  rcases b with rfl|rfl
  .exact Ej (v:=⟨2,0,y⟩) (e:=0) (by grind[oa,Sb,Xl]) (by grind[Ba,ep,Xl])
  .exact Ej (v:=⟨2,0,m⟩) (e:=0) (by grind[oa,Sb,Xl]) (by grind[Ba,ep,Xl])
 .rcases b with rfl|rfl
  all_goals grind[oa,Sb,tt,Xl]
theorem L5{env:GEnv}(he:EnvOk env) (hf:VA ⟨33,N⟩ env=true) (ha:Nc a):Au (uh ⟨33,N⟩ [a] env):=by
 simp only[VA,uaa,if_false,if_true,decide_eq_true_eq]at hf;have hm:env.Tables[N.toNat]'(by omega)∈env.Tables:=taa _;have hi:idx env.Tables N=some (env.Tables[N.toNat]'(by omega)):=Zn hf.1 hf.2;generalize env.Tables[N.toNat]'(by omega)=t at hi hm;have ht:=he.tabs t hm;have d:vA a=true:=decide_eq_true ha;have b:oa ⟨33,N⟩ [a] env=some (decide (a.Kind=t.Key.Kind/\a.Enum=t.Key.Enum/\1<=t.Value.Kind/\t.Value.Kind<=6)):=by
  simp only[oa,uaa,if_false,if_true,hi,Xl,kaa,Xx,d,tac]
  grind
 by_cases hc:a.Kind=t.Key.Kind/\a.Enum=t.Key.Enum/\1<=t.Value.Kind/\t.Value.Kind<=6
 .rw[decide_eq_true hc]at b;have c:Ba ⟨33,N⟩ [a] env=if(FD t env.Date a.N).2=false then some (⟨0,0,0⟩,6)else(idx t.Rows (FD t env.Date a.N).1).bind λe=>some (⟨t.Value.Kind,t.Value.Enum,e.N⟩,0):=by
   grind[Ba,Xl,mH]
  by_cases hl:(FD t env.Date a.N).2=true
  .grind[E0,Ea,Ej]
  .rw[Bool.eq_false_iff.2 hl]at c
   grind[Ej]
 grind[tt]
theorem M5{env:GEnv}(he:EnvOk env) (hN:Kd ⟨34,N⟩) (hw:wfS ⟨34,N⟩=true) (hf:VA ⟨34,N⟩ env=true) (ha:Nc a):Au (uh ⟨34,N⟩ [a] env):=by
 simp only[VA,uaa,if_false,if_true,decide_eq_true_eq]at hf;have f:0<=N/\N % 8<=5:=by
  simp_all[wfS]
 obtain⟨c,d⟩:=hN;dsimp only at c d;have hq:aa .i64 (Zaa N 8)=N / 8:=by grind[wid]
 have hr:Dab N 8=N % 8:=S5 f.1;rw[hq]at hf;have hm:env.Tables[(N / 8).toNat]'(by omega)∈env.Tables:=taa _;have hi:idx env.Tables (N / 8)=some (env.Tables[(N / 8).toNat]'(by omega)):=Zn (by omega) hf;generalize env.Tables[(N / 8).toNat]'(by omega)=t at hi hm;have ht:=he.tabs t hm;obtain⟨p,b1,b3⟩:=OO ht.2 env.Date a.N (N % 8);have b:oa ⟨34,N⟩ [a] env=some (decide (a.Kind=3/\t.Key.Kind=3/\t.Key.Enum=0/\t.Value.Kind=4/\t.Value.Enum=0)):=by
  simp only[oa,uaa,if_false,if_true,hq,hi,Xl,kaa]
  grind
 by_cases hc:a.Kind=3/\t.Key.Kind=3/\t.Key.Enum=0/\t.Value.Kind=4/\t.Value.Enum=0
 .rw[decide_eq_true hc]at b;exact Ej (v:=⟨3,0,p.1⟩) (e:=p.2) b (by grind[Ba,Xl])
 grind[tt]
theorem I5{c:GValue}{env:GEnv}(ha:Nc a) (hb:Nc b) (hc:Nc c):Au (uh ⟨26,N⟩ [a,b,c] env):=by
 by_cases h:a.Kind=1/\b.Kind=c.Kind/\b.Enum=c.Enum
 .have d:oa ⟨26,N⟩ [a,b,c] env=some true:=by
   grind[oa,Ve,Xl,YP,baa]
  by_cases hN:a.N=1
  .exact Ej (v:=b) (e:=0) d (by grind[Ba,Xl,YP])
  .exact Ej (v:=c) (e:=0) d (by grind[Ba,Xl,baa])
 grind[oa,Ve,Xl,YP,baa,tt]
theorem jw{env:GEnv}(h:1<=op/\op<=5):Au (uh ⟨op,N⟩ [] env):=by
 refine Ej (v:=⟨op,0,N⟩) (e:=0) ?_ ?_
 .have:op=1\/op=2\/op=3\/op=4\/op=5:=by omega
  rcases this with rfl|rfl|rfl|rfl|rfl<;>simp[oa]
 .have:op=1\/op=2\/op=3\/op=4\/op=5:=by omega
  rcases this with rfl|rfl|rfl|rfl|rfl<;>simp[Ba]
theorem NJ{env:GEnv}(h:(11<=op/\op<=24)\/(27<=op/\op<=30)):oa ⟨op,N⟩ [a,b] env=Oa op a b:=by
 unfold oa;dsimp only;rw[if_neg (by omega),if_neg (by omega),if_neg (by omega),if_neg (by omega),mem4,decide_eq_false (by omega),if_neg (by simp),if_neg (by simp),if_pos (by simp),Xl,YP,kaa,kaa];simp
theorem pC{env:GEnv}(h:(11<=op/\op<=24)\/(27<=op/\op<=30)):Ba ⟨op,N⟩ [a,b] env=Vb ⟨op,N⟩ a b:=by
 unfold Ba;dsimp only;have c:(op==5)=false:=by grind
 rw[if_neg (by omega),if_neg (by omega),if_neg (by omega),if_neg (by omega),c,kaa,if_neg (by simp),if_neg (by omega),if_neg (by omega),if_neg (by omega),if_neg (by omega),if_neg (by omega),mem4,decide_eq_false (by omega),if_neg (by simp),if_neg (by omega),if_neg (by omega),if_neg (by simp),if_pos (by simp),Xl,YP,kaa,kaa,BI]
def n7(a b:GValue):Prop:=a.Kind=b.Kind/\a.Enum=b.Enum
instance (a b:GValue):Decidable (n7 a b):=by unfold n7;infer_instance
theorem Ro(a b:GValue):Ve a b=some (decide (n7 a b)):=by
 unfold Ve n7;by_cases c:a.Kind=b.Kind<;>by_cases h2:a.Enum=b.Enum<;>simp[c,h2]
theorem eK{a b:Prop} [Decidable a] [Decidable b]:(if decide a=true then some (decide b)else some false)=some (decide (a/\b)):=by
 grind
theorem smEq(h:n7 a b) (hn:a.N=b.N):a=b:=by
 obtain⟨k,e,n⟩:=a;obtain⟨k',e',n'⟩:=b;obtain⟨h1,h2⟩:=h
 simp_all
theorem plK1(h:Nc a) (hk:a.Kind=1):a.Enum=0/\(a.N=0\/a.N=1):=by unfold Nc at h;omega
theorem plK5(h:Nc a) (hk:a.Kind=5):0<=a.N/\a.N<=109572:=by unfold Nc at h;omega
theorem Au.ite[Decidable c] {n:GNode}{env:GEnv}{e:Int}(hal:oa n args env=some (decide c)) (hco:c->Ba n args env=some (v,e)):Au (uh n args env):=by
 by_cases h:c
 all_goals grind[Ej,tt]
theorem aO{env:GEnv}(d:op=11\/op=12) (ha:Nc a) (hb:Nc b):Au (uh ⟨op,N⟩ [a,b] env):=by
 have h1:=ha.range;have h2:=hb.range;have c:oa ⟨op,N⟩ [a,b] env=some (decide (n7 a b/\2<=a.Kind/\a.Kind<=4)):=by
  rw[NJ (by omega)];rcases d with rfl|rfl<;>simp only[Oa,uaa,if_true,if_false,kaa,Ro,Ei,eK,Baa]
 rcases d with rfl|rfl
 .refine Au.ite (v:=⟨a.Kind,0,a.N+b.N⟩) (e:=0) c (λ_=>?_);rw[pC (by omega)];simp only[Vb,if_true,kaa,wid (n:=a.N+b.N) (by omega) (by omega)]
 .refine Au.ite (v:=⟨a.Kind,0,a.N-b.N⟩) (e:=0) c (λ_=>?_);rw[pC (by omega)];simp only[Vb,uaa,Baa,if_true,if_false,Eaa,kaa,wid (n:=a.N-b.N) (by omega) (by omega)]
theorem cO{env:GEnv}(c:op=17\/op=18) (ha:Nc a) (hb:Nc b):Au (uh ⟨op,N⟩ [a,b] env):=by
 have h1:=ha.range;have hk:(2<=a.Kind/\a.Kind<=5)↔((2<=a.Kind/\a.Kind<=4)\/a.Kind=5):=by omega
 have hal:oa ⟨op,N⟩ [a,b] env=some (decide (n7 a b/\2<=a.Kind/\a.Kind<=5)):=by
  rw[NJ (by omega)];rcases c with rfl|rfl<;>simp only[Oa,uaa,if_true,if_false,kaa,Ro,Ei,eK,Baa,Eaa,hk]
  all_goals grind
 have hco:n7 a b/\2<=a.Kind/\a.Kind<=5->Ba ⟨op,N⟩ [a,b] env=some ((if(op==17)=decide (a.N<b.N)then a else b),0):=by
  intro hc;rw[pC (by omega)];have he:=λh=>smEq hc.1 h;rcases c with rfl|rfl<;>simp only[Vb,Int.reduceLE,uaa,Baa,if_true,if_false,kaa,Eaa]
  all_goals grind
 grind[Au.ite]
theorem dO{env:GEnv}(d:op=19\/op=20):Au (uh ⟨op,N⟩ [a,b] env):=by
 have c:oa ⟨op,N⟩ [a,b] env=some (decide (n7 a b)):=by
  rw[NJ (by omega)];rcases d with rfl|rfl<;>simp only[Oa,uaa,if_true,if_false,kaa,Ro,Baa,Eaa]
 rcases d with rfl|rfl
 .refine Au.ite (v:=⟨1,0,if(a.N==b.N)=true then 1 else 0⟩) (e:=0) c (λ_=>?_)
  simp_all[Vb,pC,Wn]
 .refine Au.ite (v:=⟨1,0,if(a.N !=b.N)=true then 1 else 0⟩) (e:=0) c (λ_=>?_)
  simp_all[Vb,pC,Wn]
theorem fO{env:GEnv}(d:op=21\/op=22):Au (uh ⟨op,N⟩ [a,b] env):=by
 have hk:(2<=a.Kind/\a.Kind<=5)↔((2<=a.Kind/\a.Kind<=4)\/a.Kind=5):=by omega
 have c:oa ⟨op,N⟩ [a,b] env=some (decide (n7 a b/\2<=a.Kind/\a.Kind<=5)):=by
  rw[NJ (by omega)];rcases d with rfl|rfl<;>simp only[Oa,uaa,if_true,if_false,kaa,Ro,Ei,eK,Baa,Eaa,hk]
  all_goals grind
 rcases d with rfl|rfl
 .refine Au.ite (v:=⟨1,0,if decide (a.N<b.N)=true then 1 else 0⟩) (e:=0) c (λ_=>?_)
  simp_all[Vb,pC,Wn]
 .refine Au.ite (v:=⟨1,0,if decide (a.N<=b.N)=true then 1 else 0⟩) (e:=0) c (λ_=>?_)
  simp_all[Vb,pC,Wn]
theorem gO{env:GEnv}(c:op=23\/op=24) (ha:Nc a) (hb:Nc b):Au (uh ⟨op,N⟩ [a,b] env):=by
 have d:oa ⟨op,N⟩ [a,b] env=some (decide (a.Kind=1/\b.Kind=1)):=by
  rw[NJ (by omega)];rcases c with rfl|rfl<;>simp only[Oa,uaa,if_true,if_false,kaa,Baa,Eaa]
  all_goals grind
 refine Au.ite (v:=⟨1,0,if(if op=23 then decide (a.N=1/\b.N=1)else decide (a.N=1\/b.N=1))=true then 1 else 0⟩) (e:=0) d λhc=>?_;have n1:=(plK1 ha hc.1).2;have n2:=(plK1 hb hc.2).2;rw[pC (by omega)];rcases c with rfl|rfl<;>simp only[Vb,uaa,Baa,if_true,if_false,Eaa,kaa,Wn]
 all_goals grind
theorem J5{env:GEnv}(ha:Nc a) (hb:Nc b):Au (uh ⟨27,N⟩ [a,b] env):=by
 have h1:=ha.range;have h2:=hb.range;have c:oa ⟨27,N⟩ [a,b] env=some (decide (a.Kind=5/\b.Kind=2)):=by
  rw[NJ (by omega)]
  grind[Oa]
 refine Au.ite (v:=⟨5,0,a.N+b.N⟩) (e:=0) c (λhc=>?_);rw[pC (by omega)];simp only[Vb,uaa,Baa,if_true,if_false,Eaa,kaa,wid (n:=a.N+b.N) (by omega) (by omega),hc.1]
theorem am_p(a:Int) (j:Int) (ha:0<=a/\a<=109572):∃p,ug a j=some p:=by
 by_cases hj:-3600<=j/\j<=3600
 .obtain⟨n,m,k,b⟩:=oL ha.1 ha.2;exact⟨_,Jv b hj⟩
 simp_all[ug,Pn]
theorem K5{env:GEnv}(ha:Nc a):Au (uh ⟨28,N⟩ [a,b] env):=by
 have c:oa ⟨28,N⟩ [a,b] env=some (decide (a.Kind=5/\b.Kind=2)):=by
  rw[NJ (by omega)]
  grind[Oa]
 by_cases hc:a.Kind=5/\b.Kind=2
 .obtain⟨p,p1⟩:=am_p a.N b.N (plK5 ha hc.1);rw[decide_eq_true hc]at c;refine Ej (v:=⟨5,0,p.1⟩) (e:=p.2) c ?_
  simp_all[Vb,pC]
 grind[tt]
theorem iO{env:GEnv}(d:op=29\/op=30) (ha:Nc a) (hb:Nc b):Au (uh ⟨op,N⟩ [a,b] env):=by
 have h1:=ha.range;have h2:=hb.range;have c:oa ⟨op,N⟩ [a,b] env=some (decide (a.Kind=5/\b.Kind=5)):=by
  rw[NJ (by omega)];rcases d with rfl|rfl<;>simp only[Oa,uaa,if_true,if_false,kaa,Baa,Eaa]
  all_goals grind
 obtain⟨y,y1,-⟩:=years_p a.N b.N;rcases d with rfl|rfl
 .refine Au.ite (v:=⟨2,0,b.N-a.N⟩) (e:=0) c (λhc=>?_);rw[pC (by omega)];simp only[Vb,uaa,Baa,if_true,if_false,Eaa,kaa,wid (n:=b.N-a.N) (by omega) (by omega)]
 .refine Au.ite (v:=⟨2,0,y⟩) (e:=0) c (λhc=>?_)
  simp_all[Vb,pC]
structure SkInv (i:Nat) (st sk:List Int):Prop where
 len:st.length=i
 pos:0<i->sk≠[]
 zero:i=0->sk=[]
 last:∀k,k+1=sk.length->st[i-1]?=sk[k]?
 chain:∀j,j+1<sk.length->∃a b:Nat,sk[j]?=some (a:Int)/\sk[j+1]?=some (b:Int)/\a<b/\st[b-1]?=some (a:Int)
 bound:∀j,j<sk.length->∃a:Nat,sk[j]?=some (a:Int)/\a<i
theorem OQ{e:List GNode}(h:Wst e):∀i,i<=e.length->SkInv i (Ek e i).1 (Ek e i).2
 |0,_=>by
  refine⟨rfl,by omega,λ_=>rfl,?_,?_,?_⟩
  all_goals grind[Ek]
 |i+1,hi=>by
  have d:=OQ h i (by omega);obtain⟨a1,a2,a3⟩:=h.ar (i:=i) (by omega);have o:Ek e (i+1)=((Ek e i).1++[if 0<Am e i then((Ek e i).2[(Ek e i).2.length-Am e i]?).getD 0 else(i:Int)],(Ek e i).2.take ((Ek e i).2.length-Am e i)++[if 0<Am e i then((Ek e i).2[(Ek e i).2.length-Am e i]?).getD 0 else(i:Int)]):=rfl;rw[o];generalize (Ek e i).1=st at d⊢;generalize (Ek e i).2=sk at d a2⊢;generalize Am e i=a at a2⊢;obtain⟨f,hf,hfi,m⟩:∃f:Nat,(if 0<a then(sk[sk.length-a]?).getD 0 else(i:Int))=(f:Int)/\f<=i/\(∀j,j+1=sk.length-a->∃b:Nat,sk[j]?=some (b:Int)/\b<f/\st[f-1]?=some (b:Int)):=by
   by_cases ha:0<a
   .obtain⟨f,h1,h2⟩:=d.bound (sk.length-a) (by omega);refine⟨f,by simp_all,by omega,λj hj=>?_⟩;obtain⟨x,y,l,g,k3,k4⟩:=d.chain j (by omega)
    grind
   .refine⟨i,by omega,by omega,λj hj=>?_⟩;obtain⟨x,l,g⟩:=d.bound j (by omega);refine⟨x,l,g,?_⟩;rw[←l];exact d.last j (by omega)
  rw[hf];have c:(sk.take (sk.length-a)).length=sk.length-a:=by simp
  refine⟨by simp[d.len],λ_=>by simp,λh=>by omega,?_,?_,?_⟩
  .intro k hk;simp only[Faa,c,Fab]at hk;rw[Dae,tab (by rw[d.len];omega),d.len,Dac,tab (by omega),c,show k-(sk.length-a)=0 by omega]
  .intro j hj;simp only[Faa,c,Fab]at hj;by_cases n:j+1<sk.length-a
   .obtain⟨x,y,l,g,k3,k4⟩:=d.chain j (by omega);obtain⟨y',q1,q2⟩:=d.bound (j+1) (by omega);rw[g]at q1;injection q1 with q1;refine⟨x,y,?_,?_,k3,?_⟩
    all_goals grind
   .obtain⟨x,l,g,k3⟩:=m j (by omega);refine⟨x,f,?_,?_,g,?_⟩
    all_goals grind
  .intro j hj;simp only[Faa,c,Fab]at hj;by_cases n:j<sk.length-a
   .obtain⟨x,l,g⟩:=d.bound j (by omega)
    grind
   grind
theorem ZK{e:List GNode}:∀{n i k:Nat},i<=n->k<i->(Ek e n).1[k]?=(Ek e i).1[k]?
 |0,i,k,h,hk=>by omega
 |n+1,i,k,h,hk=>by
  by_cases hin:i=n+1
  .simp_all
  .have:(Ek e (n+1)).1=(Ek e n).1++[if 0<(Xe (lh e n).Op).toNat then((Ek e n).2[(Ek e n).2.length-(Xe (lh e n).Op).toNat]?).getD 0 else(n:Int)]:=rfl;rw[this,List.getElem?_append_left (by grind[QE])];exact ZK (by omega) hk
def sz(e:List GNode) (i j:Nat):Nat:=if j+1=Am e i then i-1 else(((Ek e i).2[(Ek e i).2.length-Am e i+j+1]?).getD 0).toNat-1
def vL(e:List GNode) (i:Nat):List Int:=(xaa (Am e i)).map λj=>(sz e i j:Int)
theorem uB{e:List GNode}(h:Wst e) {i:Nat}(hi:i<e.length) {j:Nat}(hj:j<Am e i):sz e i j<i/\∃s:Nat,(Ek e e.length).1[sz e i j]?=some (s:Int)/\(∀d,d+1=j->sz e i d+1=s):=by
 have b:=OQ h i (by omega);obtain⟨a1,a2,a3⟩:=h.ar hi;have hi0:0<i:=by
  rcases Nat.eq_zero_or_pos i with l|l
  .have:=b.zero l;simp_all
  omega
 have g:sz e i j<i/\∃s:Nat,(Ek e i).1[sz e i j]?=some (s:Int)/\(Ek e i).2[(Ek e i).2.length-Am e i+j]?=some (s:Int):=by
  unfold sz;generalize (Ek e i).1=st at b⊢;generalize (Ek e i).2=sk at b a2⊢;generalize Am e i=a at a2 hj⊢;by_cases c:j+1=a
  .rw[if_pos c];obtain⟨x,k,m⟩:=b.bound (sk.length-a+j) (by omega);exact⟨by omega,x,by rw[b.last (sk.length-a+j) (by omega)];omega,k⟩
  .rw[if_neg c];obtain⟨x,y,k,m,k3,k4⟩:=b.chain (sk.length-a+j) (by omega);obtain⟨y',q1,q2⟩:=b.bound (sk.length-a+j+1) (by omega)
   grind
 obtain⟨n,s,h2,h3⟩:=g;refine⟨n,s,by grind[ZK],λd f=>?_⟩;subst f;obtain⟨x,y,k,m,k3,k4⟩:=b.chain ((Ek e i).2.length-Am e i+d) (by omega)
 grind[sz]
theorem QN{e:List GNode}(h:Wst e):∀{n k s:Nat},n<=e.length->(Ek e n).1[k]?=some (s:Int)->s<=k
 |0,k,s,_,a=>by grind[Ek]
 |n+1,k,s,hn,a=>by
  have hk:k<n+1:=by
   grind[QE]
  by_cases b:k=n
  .subst b;have c:=OQ h (k+1) hn;have hne:=c.pos (by omega);obtain⟨q,hq⟩:∃q,q+1=(Ek e (k+1)).2.length:=⟨(Ek e (k+1)).2.length-1,by grind[List.length_pos_iff]⟩;have d:=c.last q hq;rw[Dae,a]at d;obtain⟨x,k1,k2⟩:=c.bound q (by omega)
   grind
  .rw[ZK (i:=n) (by omega) (by omega)]at a;exact QN h (by omega) a
theorem SQ{e:List GNode}(h:Wst e):xq e=((Ek e e.length).1,0,0):=by
 have:=h.pos;have:=h.le;have:=h.one;unfold xq;rw[if_neg (by omega),if_neg (by omega),sb.2 h.err]
 simp_all
theorem T1{e:List GNode}(h:Wst e) {i:Nat}(hi:i<e.length) {step:List Int×Int×Int->Option (Ex (List Int×Int×Int) (List Int) Unit)}
 (g:∀a b c,step (a,b,c)=if 0<=c then(idx a c).bind λ_=>(put a c b).bind λm=>(idx (Ek e e.length).1 b).bind λk=>some (.go (m,aa .i64 (k-1),aa .i64 (c-1)))else some (.brk a)) :
 ea step (oaa (Am e i) 0,(i:Int)-1,(Am e i:Int)-1)=some (.inl (vL e i)):=by
 have hle:=h.le;obtain⟨a1,a2,a3⟩:=h.ar hi;have ha3:Am e i<=12:=by have:=Yy (e:=e) (i:=i) λj hj=>h.err j (by omega);omega
 refine Od (λt=>(oaa (Am e i-t) 0++(vL e i).drop (Am e i-t),(if t=0 then(i:Int)-1 else if t=Am e i then(((Ek e e.length).1[sz e i 0]?).getD 0)-1 else(sz e i (Am e i-t-1):Int)),(Am e i:Int)-1-t)) (Am e i) _ (λt ht=>?_) ?_ ?_
 .obtain⟨j,hj⟩:∃j,Am e i=t+j+1:=⟨Am e i-t-1,by omega⟩;obtain⟨o1,s,l,o3⟩:=uB h hi (j:=j) (by omega);rw[g];have d:(if t=0 then(i:Int)-1 else if t=Am e i then(((Ek e e.length).1[sz e i 0]?).getD 0)-1 else(sz e i (Am e i-t-1):Int))=(sz e i j:Int):=by
   by_cases t0:t=0
   .grind[sz]
   grind
  rw[d,if_pos (by omega),show(Am e i:Int)-1-t=((j:Nat):Int) by omega];have hL:(vL e i).length=Am e i:=by simp[vL]
  rw[Ea (i:=j) (by grind),kaa,iA (by grind),kaa];rw[MZ,l,kaa];have f:(oaa (Am e i-t) 0++(vL e i).drop (Am e i-t)).set j (sz e i j:Int)=oaa (Am e i-(t+1)) 0++(vL e i).drop (Am e i-(t+1)):=by
   rw[show Am e i-t=j+1 by omega,show Am e i-(t+1)=j by omega,List.replicate_succ',Oaa,zad _ _ (by simp),Zab,Dac]
   grind[vL,mab]
  have hlt:sz e i j<(Ek e e.length).1.length:=by grind
  have g:(s:Int)-1=(if t+1=0 then(i:Int)-1 else if t+1=Am e i then(((Ek e e.length).1[sz e i 0]?).getD 0)-1 else(sz e i (Am e i-(t+1)-1):Int)):=by
   rw[if_neg (by omega)];by_cases j0:j=0
   all_goals grind
  have hsb:(0:Int)<=s/\(s:Int)<=100:=by
   have:=QN h (Haa _) l;omega
  rw[f,wid (n:=(s:Int)-1) (by omega) (by omega),wid (n:=((j:Nat):Int)-1) (by omega) (by omega),g];congr 4;omega
 .grind
 simp_all[vL]
theorem Vw{e:List GNode}(h:Wst e) {i:Nat}(hi:i<e.length) {env:GEnv}:Fe ⟨e,(Ek e e.length).1,env⟩ (i:Int)=some (vL e i):=by
 have hle:=h.le;obtain⟨a1,a2,a3⟩:=h.ar hi;have ha3:Am e i<=12:=by have:=Yy (e:=e) (i:=i) λj hj=>h.err j (by omega);omega
 have d:Xe (lh e i).Op=(Am e i:Int):=by grind[Am]
 unfold Fe;dsimp only;rw[Ea hi,kaa,Tu hi,Xn,kaa,d,LC (by omega) (by omega),kaa,Zab,wid (n:=(i:Int)-1) (by omega) (by omega),wid (n:=(Am e i:Int)-1) (by omega) (by omega),T1 h hi λa b c=>by grind[Rh]];rfl
theorem YO(e:List GNode) (i:Nat):Am e i<=3:=by
 grind[Am,Xe]
theorem OS(e:List GNode) (i:Nat):(vL e i).length=Am e i:=by simp[vL]
theorem OE{e:List GNode}{i t:Nat}(h:t<Am e i):idx (vL e i) (t:Int)=some ((sz e i t:Nat):Int):=by
 grind[vL,Ea]
theorem OG{f:Nat->α}{k t:Nat}(h:t<k):((xaa k).map f).take (t+1)=((xaa k).map f).take t++[f t]:=by
 grind[Raa]
theorem lazyO:(laa (α:=Bool) (if op=23 then some true else if op=24 then some true else some (op==26)) k)=k (decide (op=23\/op=24\/op=26)):=by
 grind
def Sw(p:GValue×Int):GValue×Int:=if¬p.2=0 then(⟨0,0,0⟩,p.2)else if p.1.Kind=1/\Nc p.1 then p else(⟨0,0,0⟩,8)
theorem boolO:(laa (α:=Bool) (if v.Kind=1 then(Ob v).bind λa=>some (!a)else some true) k)=k (decide (¬(v.Kind=1/\Nc v))):=by
 grind[vA,jd]
theorem bool_p{a:GEval_evaluator->Int->Option (GValue×Int)}{R250 b}{x:GEval_evaluator}{p:GValue×Int}(h:a x j=some p):zc a R250 b x j=some (Sw p):=by
 unfold zc Sw;rw[h,kaa];simp only[boolO]
 grind
def UM(op N:Int) (a b c:GValue×Int):GValue×Int:=
 if¬N=0 then(⟨0,0,0⟩,2)else
 if¬(Sw a).2=0 then(⟨0,0,0⟩,(Sw a).2)else
 if op=26 then(if(Sw a).1.N=1 then b else c)else
 if(op==23)=((Sw a).1.N==0)then((Sw a).1,0)else Sw b
theorem ZZ{c a b:GValue×Int}(h1:a.2=0->Nc a.1) (h2:b.2=0->Nc b.1):(UM op N c a b).2=0->Nc (UM op N c a b).1:=by
 grind[UM,Sw]
theorem SX{l:List GValue}(hl:l.length<=1048576):Xi l=some (l.all vA):=by
 have e1:ea (xg l) 0=some (fi () (ff (λi=>if(l[i]?.any λv=>!vA v)=true then some false else none) l.length)):=
  kh (λi=>(i:Int)) _ l.length () (λi hi _=>by
   unfold xg;rw[if_pos (by omega),Ea hi,naa hi]
   grind[zE,jd,va]) (λ_=>by grind[xg])
 unfold Xi;rw[e1];by_cases h:l.all vA=true
 .have hn:∀i,i<l.length->(l[i]?.any λv=>!vA v)=false:=by
   simp_all
  rw[sb.2 (λi hi=>by simp_all),h];rfl
 .have hb:l.all vA=false:=by simp_all
  obtain⟨x,hx,hx2⟩:∃x∈l,vA x=false:=by
   simp_all
  obtain⟨k,hk,rfl⟩:=waa hx;have ne:ff (λi=>if(l[i]?.any λv=>!vA v)=true then some false else none) l.length=some false:=by
   cases hf:ff (λi=>if(l[i]?.any λv=>!vA v)=true then some false else none) l.length with
   |none=>
    grind[sb]
   |some w=>
    obtain⟨i,_,h2,_⟩:=vb.1 hf
    simp_all
  rw[ne,hb];rfl
theorem ML{n:GNode}{env:GEnv}(ha:args.length<=3) (h:1<=n.Op/\n.Op<=39->Xe n.Op=args.length->wfS n=true->VA n env=true->(∀a∈args,Nc a)->Au (uh n args env)):Au (zj n args env):=by
 unfold zj;rw[TI,Xn,Fz,SX (l:=args) (by omega)];simp only[kaa];have err:∀{c:Int},c≠0->Au (some (⟨0,0,0⟩,c)):=λh=>⟨_,rfl,λh2=>absurd h2 h⟩;by_cases i:1<=n.Op/\n.Op<=39
 case neg=>grind
 rw[decide_eq_true i];simp only[tac];by_cases h2:wfS n=true
 case neg=>simp_all
 rw[h2];simp only[if_true];by_cases m:Xe n.Op=args.length
 case neg=>
  grind
 have:((args.length:Int) !=Xe n.Op)=false:=by grind
 rw[this];simp only[kaa,Eaa,if_false];by_cases j:VA n env=true
 case neg=>simp_all
 rw[j];simp only[Bool.true_eq_false,if_false];by_cases k:args.all vA=true
 case neg=>grind
 rw[k];simp only[if_true];have o:∀a∈args,Nc a:=λa ha=>of_decide_eq_true (List.all_eq_true.1 k a ha);have hc:=h i m h2 j o;have e1:(laa (α:=Bool) ((oa n args env).bind λf=>some (!f)) λe=>if e=true then some ((⟨0,0,0⟩:GValue),(8:Int))else(Ba n args env).bind λd=>if¬d.2=0 then some (⟨0,0,0⟩,d.2)else(Ob d.1).bind λg=>if g=false then some (⟨0,0,0⟩,3)else some (d.1,0))=uh n args env:=by
  unfold uh
  cases oa n args env with
  |none=>rfl
  |some b=>
   grind[jd]
 simp_all
noncomputable def yE(e:List GNode) (env:GEnv) (i:Nat):GValue×Int:=((ba (3*i+3)).1 ⟨e,(Ek e e.length).1,env⟩ i).getD (⟨0,0,0⟩,0)
noncomputable def jC(e:List GNode) (env:GEnv) (i:Nat):List GValue:=(xaa (Am e i)).map λt=>(yE e env (sz e i t)).1
noncomputable def ZO(e:List GNode) (env:GEnv) (i:Nat) (t:Nat):Option (GValue×Int):=if¬(yE e env (sz e i t)).2=0 then some (⟨0,0,0⟩,(yE e env (sz e i t)).2)else none
noncomputable def Z8(e:List GNode) (env:GEnv) (i:Nat):GValue×Int:=
 if(lh e i).Op=23\/(lh e i).Op=24\/(lh e i).Op=26 then
  UM (lh e i).Op (lh e i).N (yE e env (sz e i 0)) (yE e env (sz e i 1)) (if(lh e i).Op=26 then yE e env (sz e i 2)else(⟨0,0,0⟩,1))
 else match ff (ZO e env i) (Am e i)with
  |some v=>v
  |none=>(zj (lh e i) (jC e env i) env).getD (⟨0,0,0⟩,0)
structure NodeP (e:List GNode) (env:GEnv) (i:Nat):Prop where
 p:∀n,3*i+3<=n->(ba n).1 ⟨e,(Ek e e.length).1,env⟩ i=some (yE e env i)
 ok:(yE e env i).2=0->Nc (yE e env i).1
 q:yE e env i=Z8 e env i
variable {i:Nat}{e:List GNode}{env:GEnv}
theorem oN(h1:∀n,3*i+3<=n->(ba n).1 ⟨e,(Ek e e.length).1,env⟩ i=some (Z8 e env i)) (h3:(Z8 e env i).2=0->Nc (Z8 e env i).1):NodeP e env i:=by
 have:yE e env i=Z8 e env i:=by
  simp_all[yE]
 exact⟨by simp_all,by simp_all,this⟩
theorem l8(h:Wst e) (hi:i<e.length) {n:Nat}(b:∀j,j<i->(ba n).1 ⟨e,(Ek e e.length).1,env⟩ j=some (yE e env j)) :
 ea (bd ⟨e,(Ek e e.length).1,env⟩ (vL e i) (ba n).1) (oaa (Am e i) ⟨0,0,0⟩,0)=some (fi (jC e env i) (ff (ZO e env i) (Am e i))):=by
 have hl:=OS e i;have h3:=YO e i;refine kh (step:=bd ⟨e,(Ek e e.length).1,env⟩ (vL e i) (ba n).1) (λt=>((jC e env i).take t++oaa (Am e i-t) ⟨0,0,0⟩,(t:Int))) (ZO e env i) (Am e i) (jC e env i) (λt ht _=>?_) (λ_=>?_) (by simp)
 .obtain⟨c,-⟩:=uB h hi ht;have a:(jC e env i).length=Am e i:=by simp[jC]
  unfold bd;dsimp only;rw[if_pos (by omega),OE ht,kaa,b _ c,kaa];unfold ZO;by_cases hc:(yE e env (sz e i t)).2=0
  .rw[if_neg (saa.2 hc),if_neg (saa.2 hc)];rw[Ea (by grind),kaa,iA (by grind),kaa,va (by omega)];unfold zE;dsimp only;congr 3;rw[zad _ _ (by grind),show t-((jC e env i).take t).length=0 by grind,show Am e i-t=(Am e i-(t+1))+1 by omega,List.replicate_succ,List.set_cons_zero]
   grind[jC,OG]
  .rw[if_pos hc,if_pos hc];rfl
 .unfold bd;dsimp only;rw[if_neg (by omega),Dac];have a:(jC e env i).length=Am e i:=by simp[jC]
  grind
theorem node_g(h:Wst e) (hA:∀i,i<e.length->¬((lh e i).Op=23\/(lh e i).Op=24\/(lh e i).Op=26)->Au (zj (lh e i) (jC e env i) env)):∀i,i<e.length->NodeP e env i:=by
 intro i
 induction i using Nat.strongRecOn with
 |_ i k=>
  intro hi;have hle:=h.le;have har:=h.ar hi;have hga:=YO e i;have f:=OS e i;by_cases b:(lh e i).Op=23\/(lh e i).Op=24\/(lh e i).Op=26
  .have hk:2<=Am e i/\((lh e i).Op=26->Am e i=3):=by
    unfold Am;rcases b with h|h|h<;>rw[h]<;>decide
   have r:=(uB h hi (j:=0) (by omega)).1;have x:=(uB h hi (j:=1) (by omega)).1;have s:=k _ r (by omega);have l:=k _ x (by omega);have u:idx (vL e i) 0=some ((sz e i 0:Nat):Int):=OE (t:=0) (by omega);have w:idx (vL e i) 1=some ((sz e i 1:Nat):Int):=OE (t:=1) (by omega);have d:(lh e i).Op=26->NodeP e env (sz e i 2)/\sz e i 2<i/\idx (vL e i) 2=some ((sz e i 2:Nat):Int):=λa=>by
    grind[uB,OE]
   have hq:Z8 e env i=_:=if_pos b;refine oN (λn hn=>?_) (by
    rw[hq];exact ZZ l.ok (by
     split
     .rename_i a;exact(d a).1.ok
     omega))
   rw[hq];obtain⟨n,rfl⟩:∃m,n=m+3:=⟨n-3,by omega⟩;show Dc (ba (n+2)).1 (ba (n+2)).2.1 (ba (n+2)).2.2 _ _=_;unfold Dc;dsimp only;rw[Ea hi,kaa,Tu hi,Vw h hi,kaa,lazyO,decide_eq_true b,if_pos rfl,BI];show Qf (ba (n+1)).1 (ba (n+1)).2.1 (ba (n+1)).2.2 _ _ _=_;unfold Qf UM;by_cases c:(lh e i).N=0
   case neg=>simp_all
   rw[if_neg (saa.2 c),if_neg (saa.2 c),u,kaa];have g:∀j,j<i->NodeP e env j->(ba (n+1)).2.2 ⟨e,(Ek e e.length).1,env⟩ (j:Int)=some (Sw (yE e env j)):=λj hj hb=>(show zc (ba n).1 (ba n).2.1 (ba n).2.2 _ _=_ from bool_p (hb.p n (by omega)));rw[g _ r s,kaa];by_cases hc:(Sw (yE e env (sz e i 0))).2=0
   case neg=>simp_all
   rw[if_neg (saa.2 hc),if_neg (saa.2 hc)];by_cases a:(lh e i).Op=26
   .obtain⟨c1,c2,c3⟩:=d a;rw[if_pos a,if_pos a,kaa,if_pos a,if_pos a];by_cases o:(Sw (yE e env (sz e i 0))).1.N=1
    .rw[if_pos (by simp_all),if_pos o,w,kaa,BI];exact l.p (n+1) (by omega)
    .rw[if_neg (by simp_all),if_neg o,c3,kaa,BI];exact c1.p (n+1) (by omega)
   grind
  .obtain⟨q,q1,q3⟩:=hA i hi b;have hff:∀v,ff (ZO e env i) (Am e i)=some v->v.2≠0:=by
    grind[ZO,vb]
   have hq:Z8 e env i=(match ff (ZO e env i) (Am e i)with|some v=>v|none=>q):=by
    simp_all[Z8]
   refine oN (λn hn=>?_) ?_
   .rw[hq];obtain⟨n,rfl⟩:∃m,n=m+1:=⟨n-1,by omega⟩;show Dc (ba n).1 (ba n).2.1 (ba n).2.2 _ _=_;unfold Dc;dsimp only;rw[Ea hi,kaa,Tu hi,Vw h hi,kaa,lazyO,decide_eq_false b,if_neg (by simp),f,LC (by omega) (by omega),kaa,l8 h hi (λj hj=>(k j hj (by omega)).p n (by omega)),kaa]
    grind[mQ,outR_s]
   grind
theorem Eval_g(h:Wst e) (hb:NodeP e env (e.length-1)):Ql e env=some (yE e env (e.length-1))/\((yE e env (e.length-1)).2=0->Nc (yE e env (e.length-1)).1):=by
 have hf:1000000<=Wu:=by grind[Wu]
 have hp:=h.pos;have hle:=h.le;unfold Ql Xr;rw[br];simp only[kaa];rw[SQ h];have e1:aa .i64 ((e.length:Int)-1)=((e.length-1:Nat):Int):=by grind[wid]
 unfold Kj;rw[e1];dsimp only;rw[if_neg (by decide),hb.p _ (by omega)];exact⟨rfl,hb.ok⟩
noncomputable def uH(t0 t1:List Int) (i:Nat):Option Int:=
 match t0[i]?,t1[i]? with
 |some p,some q=>if p < -1\/(i:Int)<=p then some 9 else if q<0\/9<q then some 3 else none
 |_,_=>none
noncomputable def BJ(t0 t1:List Int):Int:=
 if¬(t0.length:Int)=(t1.length:Int)then 2 else if 8<(t0.length:Int)then 4 else
 match ff (uH t0 t1) t0.length with|some v=>v|none=>0
theorem orO{a b:Prop} [Decidable a] [Decidable b] :(laa (α:=Bool) (if¬a then some (decide b)else some true) k)=k (decide (a\/b)):=by
 grind
theorem wz(t0 t1:List Int):nj t0 t1=some (BJ t0 t1):=by
 unfold nj BJ;by_cases hl:(t0.length:Int)=(t1.length:Int)
 case neg=>simp_all
 rw[if_neg (saa.2 hl),if_neg (saa.2 hl)];by_cases a:8<(t0.length:Int)
 .simp_all
 rw[if_neg a,if_neg a];have e1:ea (Eg t0 t1) 0=some (fi () (ff (uH t0 t1) t0.length)):=
  kh (λi=>(i:Int)) _ t0.length () (λi hi _=>by
   unfold Eg uH;rw[if_pos (by omega),Ea hi,naa hi,naa (l:=t1) (by omega)];dsimp only;rw[kaa,orO,Ea (l:=t1) (by omega),kaa,orO,va (by omega)]
   grind[zE]) (λ_=>by grind[Eg])
 rw[e1];cases ff (uH t0 t1) t0.length<;>rfl
structure TreeOk (t0 t1:List Int):Prop where
 len:t0.length=t1.length
 le:t0.length<=8
 par:∀i (h:i<t0.length),-1<=t0[i]/\t0[i]<(i:Int)
variable {t1 t0:List Int}
theorem PW(h:BJ t0 t1=0):TreeOk t0 t1:=by
 unfold BJ at h;by_cases hl:(t0.length:Int)=(t1.length:Int)
 case neg=>omega
 rw[if_neg (saa.2 hl)]at h;by_cases a:8<(t0.length:Int)
 .omega
 rw[if_neg a]at h;refine⟨by omega,by omega,λi hi=>?_⟩;have hn:ff (uH t0 t1) t0.length=none:=by
  grind[uH,vb]
 grind[uH,sb]
def wY(t0:List Int) (at_:Int):Nat->List Int
 |0=>[]
 |n+1=>if t0[n]?=some at_ then wY t0 at_ n++[(n:Int)]else wY t0 at_ n
def FI(t0:List Int) (at_:Int):List Int:=wY t0 at_ t0.length
theorem YJ(t0:List Int) (a:Int):∀n,(wY t0 a n).length<=n
 |0=>by simp[wY]
 |n+1=>by
  have:=YJ t0 a n
  grind[wY]
theorem EA{t0:List Int}{a x:Int}:∀{n:Nat},x∈wY t0 a n->∃k:Nat,x=(k:Int)/\k<n/\t0[k]?=some a
 |0,h=>by grind[wY]
 |n+1,h=>by
  unfold wY at h;split at h
  .rename_i hn;rcases List.mem_append.1 h with h|h
   .obtain⟨k,a1,a2,a3⟩:=EA h;grind
   grind
  .obtain⟨k,a1,a2,a3⟩:=EA h;grind
theorem vz(hl:t0.length<=1048576) (a:Int):mj t0 a=some (FI t0 a):=by
 have step:ea (Dg t0 a) (([]:List Int),0)=some (.inl (FI t0 a)):=by
  refine Od (λi=>(wY t0 a i,(i:Int))) t0.length _ (λi hi=>?_) ?_ rfl
  .have h1:=YJ t0 a i;unfold Dg;dsimp only;rw[if_pos (by omega),Ea hi,kaa,va (by omega)];simp only[wY,naa hi,Vaa];by_cases hc:t0[i]=a
   .rw[if_pos hc,if_pos hc,Kh (by grind)];rfl
   simp_all
  grind[Dg,FI]
 grind[mj]
def pri(t1:List Int) (x:Int):Int:=(t1[x.toNat]?).getD 0
def Nx(t1:List Int) (out:Int->Int) (acc:List Int) (x:Int):List Int:=
 if out x = -1 then acc else
 match acc with
 |[]=>[x]
 |y::l=>if pri t1 y<pri t1 x then [x]else if pri t1 x=pri t1 y then y::l++[x]else y::l
def Ev(t1:List Int) (out:Int->Int) (l:List Int):List Int:=l.foldl (Nx t1 out) []
theorem Jy:∀x∈Ev t1 out l,x∈l:=by
 have:∀(l acc:List Int),∀x∈l.foldl (Nx t1 out) acc,x∈acc\/x∈l:=by
  intro l
  induction l with
  |nil=>simp
  |cons y l a=>
   intro acc x hx;rcases a _ x hx with h|h
   .unfold Nx at h
    grind
   simp_all
 intro x hx;rcases this l [] x hx with h|h
 all_goals simp_all
theorem iU(t1:List Int) (out:Int->Int) (l:List Int):(Ev t1 out l).length<=l.length:=by
 have:∀(l acc:List Int),(l.foldl (Nx t1 out) acc).length<=acc.length+l.length:=by
  intro l
  induction l with
  |nil=>simp
  |cons y l a=>
   intro acc;refine Qab (a _) ?_;have:(Nx t1 out acc y).length<=acc.length+1:=by
    unfold Nx
    grind
   grind
 have h:=this l [];rw[Aaa,Jab]at h;exact h
theorem cP{x:Int}:Ev t1 out (l++[x])=Nx t1 out (Ev t1 out l) x:=by simp[Ev]
theorem PL{o a:Int->Int}(h:∀x∈l,o x=a x):Ev t1 o l=Ev t1 a l:=by
 have:∀(l acc:List Int),(∀x∈l,o x=a x)->l.foldl (Nx t1 o) acc=l.foldl (Nx t1 a) acc:=by
  intro l
  induction l with
  |nil=>simp
  |cons y l ih=>
   simp_all[Nx]
 exact this l [] h
theorem jU(hl:l.length<=100) (hm:∀x∈l,0<=x/\x<(t1.length:Int)) {g:Int->Option Int}(C:∀x∈l,g x=some (out x)) {mt:List Int->Option (List Int)}(j:∀q,mt q=some [])
 (D:∀a b,step (a,b)=if b<(l.length:Int)then
  laa (α:=(List Int)) (
   (idx l b).bind λh=>(g h).bind λE=>if E=(-1)then some a else
   laa (α:=(List Int)) (laa (α:=Bool) (if 0<(a.length:Int)then(idx t1 h).bind λF=>(idx a 0).bind λp=>(idx t1 p).bind λs=>some (decide (s<F))else some false) λm=>if m=true then mt a else some a) λc=>
   laa (α:=Bool) (if¬(c.length:Int)=0 then(idx t1 h).bind λt=>(idx c 0).bind λu=>(idx t1 u).bind λv=>some (t==v)else some true) λn=>
   if n=true then(app 8 c ([h])).bind λw=>some w else some c) λo=>some (Ex.go (o,(aa .i64 (b+1))))
  else some (Ex.brk a)):ea step (([]:List Int),0)=some (.inl (Ev t1 out l)):=by
 refine Od (λi=>(Ev t1 out (l.take i),(i:Int))) l.length _ (λi hi=>?_) ?_ rfl
 .have B:=iU t1 out (l.take i);have h2:(l.take i).length<=l.length:=by grind
  have d:∀y∈Ev t1 out (l.take i),0<=y/\y<(t1.length:Int):=λy z=>hm y (Mab (Jy y z));rw[D,if_pos (by omega),Ea hi,kaa,C _ (taa hi),kaa,va (by omega),Raa,naa hi];have hx:=hm _ (taa hi);simp only[Option.toList_some,cP];generalize l[i]=x at hx⊢;have k:idx t1 x=some (pri t1 x):=by grind[pri,Zn]
  generalize Ev t1 out (l.take i)=acc at B d⊢;unfold Nx;by_cases ho:out x = -1
  .simp_all
  rw[if_neg ho,if_neg ho];rcases acc with _|⟨y,r⟩
  .simp_all[Kh]
  .have z:=d y (by simp);have f:idx t1 y=some (pri t1 y):=by grind[pri,Zn]
   have A:∀(q:List Int),idx (y::q) 0=some y:=λq=>by simp[idx]
   dsimp only;rw[if_pos (by simp),k,A,kaa,kaa,f,kaa,kaa];by_cases e:pri t1 y<pri t1 x
   .rw[if_pos (by simp_all),j,kaa,if_neg (by simp),kaa,if_pos rfl,Kh (by simp),if_pos e];rfl
   .rw[if_neg (by simp_all),kaa,if_pos (by grind),kaa,A,kaa,f,kaa,kaa,if_neg e];by_cases he:pri t1 x=pri t1 y
    .rw[if_pos (by simp_all),if_pos he,Kh (by grind)];rfl
    simp_all
 simp_all
def FO(t1:List Int) (out:Int->Int) (l:List Int):Int:=
 match Ev t1 out l with
 |[]=>-1
 |[x]=>out x
 |_=>-2
theorem SV{o a:Int->Int}(h:∀x∈l,o x=a x):FO t1 o l=FO t1 a l:=by
 grind[FO,PL,Jy]
def oc(t0 t1:List Int) (t2:List Bool):Nat->Int->Int
 |0,_=>-1
 |k+1,i=>if FO t1 (oc t0 t1 t2 k) (FI t0 i) = -1/\(t2[i.toNat]?).getD false=true then i else FO t1 (oc t0 t1 t2 k) (FI t0 i)
theorem zR(h:TreeOk t0 t1) {i x:Int}(hx:x∈FI t0 i):i<x/\0<=x/\x<(t0.length:Int):=by
 obtain⟨k,rfl,hk,hp⟩:=EA hx;have:=h.par k hk
 simp_all
theorem PV(h:TreeOk t0 t1):∀(d:Nat) (i:Int),0<=i->(t0.length:Int)-i<=d->∀k a:Nat,(t0.length:Int)-i<=k->(t0.length:Int)-i<=a->i<t0.length->oc t0 t1 t2 k i=oc t0 t1 t2 a i:=by
 intro d
 induction d with
 |zero=>omega
 |succ d ih=>
  intro i h0 hd k a hk hk' hi;obtain⟨k,rfl⟩:∃m,k=m+1:=⟨k-1,by omega⟩;obtain⟨a,rfl⟩:∃m,a=m+1:=⟨a-1,by omega⟩;have:FO t1 (oc t0 t1 t2 k) (FI t0 i)=FO t1 (oc t0 t1 t2 a) (FI t0 i):=SV λx hx=>by
   have:=zR h hx
   grind
  grind[oc]
def O(t0 t1:List Int) (t2:List Bool) (i:Int):Int:=oc t0 t1 t2 t0.length i
theorem O_eq(h:TreeOk t0 t1) {i:Int}(a:0<=i) (b:i<t0.length):O t0 t1 t2 i=if FO t1 (O t0 t1 t2) (FI t0 i) = -1/\(t2[i.toNat]?).getD false=true then i else FO t1 (O t0 t1 t2) (FI t0 i):=by
 unfold O;rw[PV h t0.length i a (by omega) t0.length (t0.length+1) (by omega) (by omega) b];rfl
noncomputable def AW(t0 t1:List Int) (t2:List Bool):Int:=if BJ t0 t1=0/\t2.length=t0.length then FO t1 (O t0 t1 t2) (FI t0 (-1))else -1
theorem rB{out:List Int}(h:TreeOk t0 t1) {f:Int->Int}{i:Int}(ho:∀x∈FI t0 i,idx out x=some (f x)):Hb ⟨t0,t1,out⟩ i=some (FO t1 f (FI t0 i)):=by
 have hle:=h.le;have hlen:=h.len;have hcl:=YJ t0 i t0.length;unfold Hb xl;dsimp only;rw[vz (by omega) i,kaa];have hb:=jU (t1:=t1) (out:=f) (l:=FI t0 i) (by grind[FI]) (λx hx=>by have:=zR h hx;omega) (step:=ui ⟨t0,t1,out⟩ (FI t0 i)) (g:=λx=>idx out x) ho (mt:=λq=>(Fq q 0).bind λc=>some c) (λq=>by rw[show(0:Int)=((0:Nat):Int)from rfl,fw (by omega)];rfl) (λa b=>by grind[ui]);rw[hb];simp only[kaa];unfold FO;have d:=Jy (t1:=t1) (out:=f) (l:=FI t0 i);generalize Ev t1 f (FI t0 i)=r at d⊢;rcases r with _|⟨x,_|⟨y,q⟩⟩
 all_goals grind[idx]
theorem nQ(h:TreeOk t0 t1) (h2:t2.length=t0.length):oj t0 t1 t2=some ((xaa t0.length).map λ(k:Nat)=>O t0 t1 t2 (k:Int)):=by
 have hle:=h.le;unfold oj;rw[LC (by omega) (by omega),kaa,wid (by omega) (by omega)];have hl:ea (Fg t0 t1 t2) (oaa t0.length 0,(t0.length:Int)-1)=some (.inl ((xaa t0.length).map λ(k:Nat)=>O t0 t1 t2 (k:Int))):=by
  refine Od (λt=>((xaa t0.length).map (λ(k:Nat)=>if k<t0.length-t then 0 else O t0 t1 t2 (k:Int)),(t0.length:Int)-1-t)) t0.length _ (λt ht=>?_) ?_ ?_
  .obtain⟨j,hj⟩:∃j,t0.length=t+j+1:=⟨t0.length-t-1,by omega⟩;have f:(t0.length:Int)-1-t=(j:Int):=by omega
   have b:t0.length-t=j+1:=by omega
   have c:t0.length-(t+1)=j:=by omega
   skip
   rw[f,b,c];unfold Fg;dsimp only;rw[if_pos (by omega)];have d:Hb ⟨t0,t1,(xaa t0.length).map (λ(k:Nat)=>if k<j+1 then 0 else O t0 t1 t2 (k:Int))⟩ (j:Int)=some (FO t1 (O t0 t1 t2) (FI t0 (j:Int))):=by
    refine rB h λx hx=>?_;have:=zR h hx;obtain⟨k,rfl⟩:=Eab this.2.1;rw[Ea (by grind)]
    grind
   rw[d,kaa,Ea (by grind),kaa,iA (by grind),kaa];rw[Ea (by grind)];simp only[List.getElem_set_self,kaa];have e:=O_eq (t2:=t2) h (i:=(j:Int)) (by omega) (by omega);rw[Hac,naa (by omega)]at e;simp only[Option.getD_some]at e;have a:∀v,v=O t0 t1 t2 (j:Int)->((xaa t0.length).map (λ(k:Nat)=>if k<j+1 then 0 else O t0 t1 t2 (k:Int))).set j v=(xaa t0.length).map (λ(k:Nat)=>if k<j then 0 else O t0 t1 t2 (k:Int)):=by
    intro v hv;apply fac
    all_goals grind
   have hw:aa .i64 ((j:Int)-1)=(t0.length:Int)-1-((t+1:Nat):Int):=by grind[wid]
   by_cases hm:FO t1 (O t0 t1 t2) (FI t0 (j:Int)) = -1
   .rw[if_pos hm,Ea (l:=t2) (by omega),kaa,kaa];by_cases ha:t2[j]'(by omega)=true
    .rw[if_pos ha,iA (by grind),kaa,kaa,List.set_set,a _ (by simp_all),hw]
    simp_all
   simp_all
  .grind[Fg]
  ·((try dsimp only))
   rw[Nat.sub_zero];congr 1
   .apply fac
    all_goals simp_all
   .simp
 simp_all
theorem Xu(t0 t1:List Int) (t2:List Bool):Ll t0 t1 t2=some (AW t0 t1 t2):=by
 unfold Ll AW;rw[wz t0 t1,kaa];by_cases hv:BJ t0 t1=0
 case neg=>simp_all
 rw[if_pos hv,kaa];by_cases h2:t2.length=t0.length
 case neg=>grind
 have h:=PW hv;rw[if_neg (by simp_all),if_pos ⟨hv,h2⟩,nQ h h2,kaa,rB h (f:=O t0 t1 t2) λx hx=>by
  have:=zR h hx;obtain⟨k,rfl⟩:=Eab this.2.1
  grind[Ea]]
 rfl
section
variable {rules:List GRule} {q:GRule->Bool}
end
def WG(s:GScope) (x:Int):Int:=((s.Rules[x.toNat]?).map (·.Priority)).getD 0
def CT(s:GScope) (d date:Int):List Int×List Int×List Int:=
 ((lp s.Rules (TV d date) s.Rules.length).1,(lp s.Rules (TV d date) s.Rules.length).2.1,(lp s.Rules (TV d date) s.Rules.length).1.map (WG s))
theorem Zt{s:GScope}(a:s.Rules.length<=1048576) (d date:Int):Xj s d date=some (CT s d date):=by
 unfold Xj CT;rw[ox a (q:=TV d date) (λr=>by
  grind[vf,TV,Si]),kaa]
 have hl:=(zB (rules:=s.Rules) (q:=TV d date) s.Rules.length).2.1;have hm:=RG (rules:=s.Rules) (q:=TV d date) s.Rules.length;generalize (lp s.Rules (TV d date) s.Rules.length).2.1=pp;generalize (lp s.Rules (TV d date) s.Rules.length).1=L at hl hm;have h1:ea (ah s (L,pp)) (([]:List Int),0)=some (.inl (L.map (WG s))):=by
  refine Od (λi=>((L.take i).map (WG s),(i:Int))) L.length _ (λi hi=>?_) ?_ rfl
  .have hx:=hm _ (taa hi);have h2:(L.take i).length<=L.length:=by grind
   unfold ah;dsimp only;rw[if_pos (by omega),Ea hi,kaa,Zn hx.1 hx.2.1,kaa,Kh (by grind),kaa,va (by omega),Raa,naa hi]
   grind[WG]
  simp_all[ah]
 simp_all
end Go.Proofs.Dev
