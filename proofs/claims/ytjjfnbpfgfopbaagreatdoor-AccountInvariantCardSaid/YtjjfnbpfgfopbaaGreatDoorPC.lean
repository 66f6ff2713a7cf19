/-
  The functions as plain partial functions, and plain lemmas about them: no condition.
-/
import Derived.Test.YtjjfnbpfgfopbaaGreatDoorPB
open Bool renaming false_eq_true->Eaa,true_and->xac
open Classical renaming not_not->waa
open Decidable renaming not_not->Aac
open Int renaming eq_ofNat_of_zero_le->Cab,natAbs_mul->dae,natCast_one->zae,reduceBEq->Baa,reduceEq->vaa,tdiv->cab,tdiv_eq_ediv_of_nonneg->Cad,tmod->Bab,toNat_natCast->Bac
open List renaming append_assoc->Saa,drop_eq_getElem_cons->mab,ext_getElem->Yab,filter_append->Jab,filter_eq_nil_iff->Mac,getElem?_append_right->wab,getElem?_eq_getElem->qaa,getElem_mem->xaa,getElem_of_mem->Aaa,length_append->Taa,length_cons->uaa,length_filter_le->eab,length_nil->Faa,length_replicate->Pab,length_singleton->Eab,mem_of_mem_take->Tab,nil_append->Vaa,pairwise_iff_getElem->Mab,range->zaa,replicate->raa,set_append_right->qad,take_add_one->Uaa
open Nat renaming add_sub_cancel->nae,div_le_self->kad,le_refl->Haa,le_trans->Oab,mod_lt->Gac,mul_le_mul->Lac,sub_self->yac,zero_add->Fab
open Option renaming bind->oaa,bind_some->naa
open Option.some renaming injEq->aab
set_option linter.all false
set_option maxRecDepth 10000
set_option maxHeartbeats 1000000
namespace Go.Proofs.Dev
open Go Go.Tm
def neB(r:GDateRange):Bool:=decide (0<=r.From)&&(decide (r.To<=109573)&&decide (r.From<r.To))
theorem Fu(r:GDateRange):Hj r=some (neB r):=by
 grind[Hj,Sc,neB]
theorem Gr(r:GDateRange):Ec r=some (neB r):=by
 grind[Ec,Sc,neB]
def ends:List GDateRange->List Int
 |[]=>[]
 |r::l=>(if neB r=true then [r.From,r.To]else [])++ends l
theorem pU{a b:List GDateRange}:ends (a++b)=ends a++ends b:=by
 induction a with
 |nil=>rfl
 |cons x l ih=>grind[ends]
theorem Iq:∀l:List GDateRange,(ends l).length<=2*l.length
 |[]=>by simp[ends]
 |r::l=>by
  have:=Iq l
  grind[ends]
theorem Td{α:Type}{l:List α}{i:Nat}(h:i<l.length):l.take (i+1)=l.take i++[l[i]]:=by
 simp
theorem JE{α β:Type}{n:Nat}{l:List α}(hn:n=l.length) {step:List β×Int->Option (Ex (List β×Int) (List β) Unit)}(g:List α->List β) (x0:List β)
 (a:∀i (h:i<l.length),step (x0++g (l.take i),(i:Int))=some (.go (x0++g (l.take (i+1)),((i+1:Nat):Int)))) (hend:∀x,step (x,(n:Int))=some (.brk x)) (h0:g []=[]):ja step (x0,0)=some (.inl (x0++g l)):=by
 subst hn;refine Yg (λi=>(x0++g (l.take i),(i:Int))) l.length _ (λi hi=>a i hi) ?_ (by grind)
 simp_all
theorem AJ{l:List GDateRange}(hl:l.length<=1048576) {step:List Int×Int->Option (Ex (List Int×Int) (List Int) Unit)}(a:step=re l\/step=od l):ja step ([],0)=some (.inl (ends l)):=by
 have h:=JE (step:=step) (l:=l) rfl ends [] (λi hi=>by
  have h1:=Iq (l.take i);have h2:(l.take i).length<=l.length:=by grind
  rw[Td hi,pU];rcases a with rfl|rfl
  .unfold re;dsimp only;rw[if_pos (by omega),Pa hi,naa,Gr,naa,Ha (by omega)]
   grind[ends,kj]
  .unfold od;dsimp only;rw[if_pos (by omega),Pa hi,naa,Gr,naa,Ha (by omega)]
   grind[ends,kj]) (λx=>by
  rcases a with rfl|rfl
  all_goals grind[re,od]) rfl
 simp_all
theorem rP{l:List Int}(h:l.length<=4194304):((Ta l).bind λx=>(Fa x).bind λy=>some y)=some (Ig l):=by
 unfold Ta Fa;rw[if_pos (by omega),naa,if_pos (by simp;omega),naa,Tt]
theorem fv{l:List GDateRange}(hl:l.length<=1048576):Yf l=some (Ig (ends l)):=by
 have:=Iq l;unfold Yf;rw[AJ hl (.inl rfl),naa]
 grind[rP]
theorem kU{l:List GDateRange}(hl:l.length<=1048576):Mf l=some (Ig (ends l)):=by
 have:=Iq l;unfold Mf;rw[AJ hl (.inr rfl),naa]
 grind[rP]
def Fo(x:Int):Bool:=decide (1<=x)&&decide (x<=109572)
def known(t1:Int) (f:GFact):Bool:=decide (f.Recorded<=t1)&&neB f.Valid
def nH(t1:Int) (l:List GFact):List GDateRange:=(l.filter (known t1)).map (·.Valid)
theorem JI(t1:Int) (l:List GFact):(nH t1 l).length<=l.length:=by
 grind[nH]
theorem CZ{t1:Int}{a b:List GFact}:nH t1 (a++b)=nH t1 a++nH t1 b:=by simp[nH]
theorem vu(l:List Int):(Ig l).length<=l.length:=(dh l).2.1
theorem cy{l:List GFact}(t1:Int) (hl:l.length<=65536):Fc l t1=some ((Ig (ends (nH t1 l))).filter Fo):=by
 unfold Fc;have c:=JE (step:=Be l t1) (l:=l) rfl (nH t1) [] (λi hi=>by
  have d:=JI t1 (l.take i);have h2:(l.take i).length<=l.length:=by grind
  have a:nH t1 [l[i]]=if known t1 l[i]=true then [l[i].Valid]else []:=by
   grind[nH]
  rw[Td hi,CZ,a];have ha:=kj (b:=16) (show((nH t1 (l.take i)).length + [l[i].Valid].length)*16<=140737488355328 by grind);generalize nH t1 (l.take i)=w at *;unfold Be;dsimp only;rw[if_pos (by omega),Pa hi,naa,Fu,Ha (by omega)]
  grind[known]) (λx=>by grind[Be]) rfl
 rw[Vaa]at c;have hk:=JI t1 l;have he:=Iq (nH t1 l);have hd:=vu (ends (nH t1 l));rw[c,naa];dsimp only;rw[fv (by omega),naa];generalize Ig (ends (nH t1 l))=q at *;have e2:=JE (step:=Ae q) (l:=q) rfl (λl=>l.filter Fo) [] (λi hi=>by
  have d:=eab Fo (q.take i);have h2:(q.take i).length<=q.length:=by grind
  rw[Td hi,Jab];unfold Ae;dsimp only;rw[if_pos (by omega),Pa hi,naa,Ha (by omega)]
  grind[Fo,kj]) (λx=>by grind[Ae]) rfl
 simp_all
theorem l6{σ β ρ:Type}{step:σ->Option (Ex σ β ρ)}(I:Nat->σ->Prop) (n:Nat) (Q:β->Prop) (c:∀j s,j<n->I j s->∃s',step s=some (.go s')/\I (j+1) s') (a:∀s,I n s->∃b,step s=some (.brk b)/\Q b) :
 ∀(k j:Nat) (s:σ),j+k=n->I j s->∃b,ja step s=some (.inl b)/\Q b
 |0,j,s,h,hi=>by
  rw[Nat.add_zero]at h;grind[Gb]
 |k+1,j,s,h,hi=>by
  obtain⟨s',h1,h2⟩:=c j s (by omega) hi;obtain⟨b,h3,h4⟩:=l6 I n Q c a k (j+1) s' (by omega) h2
  grind[ud]
def bw(l:List GTable):List GDateRange:=l.flatMap λt=>t.Rows.map (·.Valid)
def Zv(l:List GScope):List GDateRange:=l.flatMap λs=>s.Rules.map (·.Valid)
theorem yA:∀{l:List GTable},(∀t∈l,t.Rows.length<=150)->(bw l).length<=150*l.length
 |[],_=>by simp[bw]
 |t::l,h=>by
  have h1:=yA (l:=l) λx hx=>h x (by grind)
  grind[bw]
theorem tA:∀{l:List GScope},(∀t∈l,t.Rules.length<=60)->(Zv l).length<=60*l.length
 |[],_=>by simp[Zv]
 |t::l,h=>by
  have h1:=tA (l:=l) λx hx=>h x (by grind)
  grind[Zv]
theorem SW{a b:List GTable}:bw (a++b)=bw a++bw b:=by simp[bw]
theorem BW{a b:List GScope}:Zv (a++b)=Zv a++Zv b:=by simp[Zv]
theorem TW{t:GTable}:bw [t]=t.Rows.map (·.Valid):=by simp[bw]
theorem CW{t:GScope}:Zv [t]=t.Rules.map (·.Valid):=by simp[Zv]
theorem n6{α:Type}{l:List α}(v:α->GDateRange) {x0:List GDateRange}(hx:x0.length+l.length<=1048576) {step:List GDateRange×Int->Option (Ex (List GDateRange×Int) (List GDateRange) Unit)}
 (hgo:∀i (h:i<l.length) x,step (x,(i:Int))=(app 16 x [v l[i]]).bind λy=>some (.go (y,ca .i64 ((i:Int)+1)))) (a:∀x,step (x,(l.length:Int))=some (.brk x)):ja step (x0,0)=some (.inl (x0++l.map v)):=by
 refine JE (step:=step) (l:=l) rfl (λl=>l.map v) x0 (λi hi=>?_) a rfl
 grind[kj,Ha,Td]
structure FewR (l:GLaw):Prop where
 nt:l.Tables.length<=9
 ns:l.Scopes.length<=5
 t:∀t∈l.Tables,t.Rows.length<=150
 s:∀s∈l.Scopes,s.Rules.length<=60
theorem pL{α:Type}{l:List α}{i:Nat}{x:α}(h:x∈l.take i):x∈l:=Tab h
theorem KQ{l:GLaw}(h:FewR l):ja (jc l) ([],0)=some (.inl (bw l.Tables)):=by
 have hnt:=h.nt;have:=JE (step:=jc l) (l:=l.Tables) rfl bw [] (λi hi=>by
  have h1:=yA (l:=l.Tables.take i) λx hx=>h.t x (pL hx);have h2:(l.Tables.take i).length<=l.Tables.length:=by grind
  have h3:=h.t l.Tables[i] (by simp);unfold jc;dsimp only;rw[if_pos (by omega),Pa hi,naa,Vaa,n6 (l:=l.Tables[i].Rows) (·.Valid) (by omega) (λk hk x=>by simp_all[Of,Pa]) (λx=>by grind[Of]),naa,Ha (by omega),Td hi,SW,TW];rfl) (λx=>by grind[jc]) rfl
 simp_all
theorem JQ{l:GLaw}(h:FewR l) {x0:List GDateRange}(hx:x0.length<=10000):ja (fc l) (x0,0)=some (.inl (x0++Zv l.Scopes)):=by
 have hns:=h.ns;refine JE (step:=fc l) (l:=l.Scopes) rfl Zv x0 (λi hi=>?_) (λx=>by grind[fc]) rfl;have h1:=tA (l:=l.Scopes.take i) λx hx=>h.s x (pL hx);have h2:(l.Scopes.take i).length<=l.Scopes.length:=by grind
 have h3:=h.s l.Scopes[i] (by simp);unfold fc;dsimp only;rw[if_pos (by omega),Pa hi,naa,n6 (l:=l.Scopes[i].Rules) (·.Valid) (by grind) (λk hk x=>by simp_all[qf,Pa]) (λx=>by grind[qf]),naa,Ha (by omega),Td hi,BW,CW,Saa]
theorem VJ(x:Int):zc x=some (!Fo x):=by
 grind[zc,Fo]
theorem filter_all{l:List Int}(h:∀i (hi:i<l.length),Fo l[i]=true):l.filter Fo=l:=by
 rw[List.filter_eq_self];intro x hx;obtain⟨i,hi,rfl⟩:=Aaa hx
 simp_all
theorem lU{q:List Int}(hq:q.length<=1048576):∃c,Nf q=some (c,q.filter Fo):=by
 unfold Nf Xi;have p:=Th (step:=pd q) (x0:=0) (λi=>(i:Int)) (λi=>match q[i]? with|some x=>if Fo x=true then none else some (i:Int)|none=>none) q.length () (λi hi _=>by
  unfold pd;rw[if_pos (by omega),Pa hi,naa,VJ,naa,Ha (by omega)]
  grind[aD]) (λ_=>by grind[pd])
 rw[p]
 cases hf:ff (λi=>match q[i]? with|some x=>if Fo x=true then none else some (i:Int)|none=>none) q.length with
 |none=>
  simp_all[Ki,Jb,filter_all]
 |some v=>
  obtain⟨k,r,l,k3⟩:=Ob.1 hf;rw[qaa r]at l;have hb:Fo q[k]=false:=by simp_all
  simp[hb]at l;subst l;have hk:(q.take k).filter Fo=q.take k:=filter_all λi hi=>by
   grind
  simp only[Ki,naa];rw[if_neg (by omega),Ha (by omega)];obtain⟨⟨c,n⟩,hl,hc⟩:=l6 (step:=qd) (λj s=>s.2.2=(j:Int)/\s.1.length=q.length/\s.2.1=(((q.take j).filter Fo).length:Int)/\s.1.take ((q.take j).filter Fo).length=(q.take j).filter Fo/\s.1.drop j=q.drop j) q.length
   (λb=>b.1.length=q.length/\b.2=((q.filter Fo).length:Int)/\b.1.take (q.filter Fo).length=q.filter Fo) (λj s hj ⟨f,m,g,h,a⟩=>by
    obtain⟨c,n,jj⟩:=s;dsimp only at f m g h a;subst f g;have hle:=eab Fo (q.take j);have hlt:(q.take j).length=j:=by grind
    have d:c[j]'(by omega)=q[j]:=by
     have o:(c.drop j)[0]?=(q.drop j)[0]?:=by rw[a]
     grind
    have hd:c.drop (j+1)=q.drop (j+1):=by
     have:=congrArg (List.drop 1) a;simpa using this
    unfold qd;dsimp only;rw[if_pos (by omega),Pa (show j<c.length by omega),naa,VJ,naa,d,Ha (show j<4611686018427387904 by omega),Td hj,Jab];cases hb:Fo q[j]
    .simp_all
    .rw[if_pos (by simp),Pa (show((q.take j).filter Fo).length<c.length by omega),naa,Ty (by omega),naa,Ha (by omega)];refine⟨_,rfl,rfl,by simp_all,by grind,?_,?_⟩
     .simp only[hb,List.filter_cons,List.filter_nil,if_true,Taa,uaa,Faa,Fab];rw[Uaa,List.take_set_of_le (Haa _),h,List.getElem?_set_self (by omega)];rfl
     grind[List.drop_set_of_lt]) (λs ⟨f,m,g,h,a⟩=>by
    simp_all[qd]) (q.length-(k+1)) (k+1) (q,(k:Int),((k+1:Nat):Int)) (by omega) (by
    have e:(q.take (k+1)).filter Fo=q.take k:=by
     grind[Td]
    grind)
  dsimp only at hc;obtain⟨o,rfl,h3⟩:=hc
  simp_all[tY,eab,OW,Nv]
theorem Eu{l:GLaw}(h:FewR l):uf l=some ((Ig (ends (bw l.Tables++Zv l.Scopes))).filter Fo):=by
 have hnt:=h.nt;have hns:=h.ns;have h1:=yA h.t;have h2:=tA h.s;have h3:=Iq (bw l.Tables++Zv l.Scopes)
 grind[uf,vu,KQ,JQ,kU,lU]
def CE(y:Int):Bool:=decide (y % 4=0)&&(!decide (y % 100=0) || decide (y % 400=0))
def Al(y m:Int):Int:=if m=2 then(if CE y=true then 29 else 28)else if m=4\/m=6\/m=9\/m=11 then 30 else 31
def eo(y:Int):Nat->Int
 |0=>0
 |n+1=>eo y n+Al y (n+1)
def Uh:Nat->Int
 |0=>0
 |n+1=>Uh n+(if CE (1900+n)=true then 366 else 365)
theorem kX{a b:Int}(h:0<=a):a.tmod b=a % b:=Int.tmod_eq_emod_of_nonneg h
theorem JF{a b:Int}(h:0<=a):a.tdiv b=a / b:=Cad h
theorem oG{y:Int}(h:0<=y):Fq y=some (CE y):=by
 grind[Fq,CE]
theorem Nc{y m:Int}(h:0<=y) (h1:1<=m) (h2:m<=12):Vc y m=some (Al y m):=by
 unfold Vc Al;rw[if_pos (by omega),naa,if_neg (by simp_all),oG h];rw[wid (by omega) (by omega)];have:m=1\/m=2\/m=3\/m=4\/m=5\/m=6\/m=7\/m=8\/m=9\/m=10\/m=11\/m=12:=by omega
 rcases this with rfl|rfl|rfl|rfl|rfl|rfl|rfl|rfl|rfl|rfl|rfl|rfl<;>first|(cases CE y<;>simp[idx,mL])|simp[idx,mL]
theorem Nl{y m:Int}:28<=Al y m/\Al y m<=31:=by
 grind[Al]
theorem sq{y:Int}:∀n,0<=eo y n/\eo y n<=31*n
 |0=>by simp[eo]
 |n+1=>by
  have:=sq (y:=y) n;have:=Nl (y:=y) (m:=n+1)
  grind[eo]
theorem jr:∀n,0<=Uh n/\Uh n<=366*n
 |0=>by simp[Uh]
 |n+1=>by
  have:=jr n
  grind[Uh]
theorem ZF:∀n:Nat,Uh n=365*n+((1899+n:Int) / 4-(1899+n:Int) / 100+(1899+n:Int) / 400)-460
 |0=>by simp[Uh]
 |n+1=>by
  simp only[Uh,ZF n,CE]
  grind
theorem Bj{n:Nat}(h:n<=1000):ph (1900+n)=some (Uh n):=by
 unfold ph rm;simp only[naa];have b:ca .i64 ((1900+(n:Int))-1)=1899+n:=by grind[wid]
 have c:ca .i64 ((1900+(n:Int))-1900)=n:=by grind[wid]
 rw[b,c];rw[JF (a:=1899+(n:Int)) (by omega),JF (a:=1899+(n:Int)) (by omega),JF (a:=1899+(n:Int)) (by omega)]
 grind[ZF,wid]
def Bl(n m:Nat):Int:=Uh n+eo (1900+n) m
theorem YD{n m:Nat}(hn:n<300) (hm:m<12):ti (1900+n) (m+1) 1=some (Bl n m,0):=by
 unfold ti;have hy:=jr n;have hd:=Nl (y:=1900+n) (m:=(m:Int)+1);rw[if_pos (by omega),if_pos (by omega),if_pos (by omega),if_pos (by omega),if_pos (by omega),Nc (by omega) (by omega) (by omega),naa,naa,if_neg (by grind),Bj (by omega),naa];have e:ja (Rc (1900+n) (m+1)) (Uh n,0)=some (.inl (Bl n m)):=Yg (step:=Rc (1900+n) (m+1)) (λi=>(Uh n+eo (1900+n) i,(i:Int))) m (Bl n m) (λi hi=>by
  unfold Rc;dsimp only;rw[wid (n:=(m:Int)+1-1) (by omega) (by omega),if_pos (by omega),Ha (by omega),Nc (by omega) (by omega) (by omega),naa];have:=sq (y:=1900+n) i;have:=Nl (y:=1900+n) (m:=((i+1:Nat):Int))
  grind[eo,wid]) (by
  unfold Rc;dsimp only;rw[wid (n:=(m:Int)+1-1) (by omega) (by omega),if_neg (by omega)];rfl) (by simp[eo])
 rw[e];have:=sq (y:=1900+n) m
 grind[Bl,wid]
def Zc(t:Int):GDateRange×Int:=if 0<=t/\t<=3599 then(⟨Bl (t.toNat / 12) (t.toNat % 12),Bl (t.toNat / 12) (t.toNat % 12)+Al (1900+(t.toNat / 12:Nat)) ((t.toNat % 12:Nat)+1)⟩,0)else(⟨0,0⟩,3)
theorem uB{t:Int}(h:(Zc t).2=0):0<=(Zc t).1.From/\(Zc t).1.From<(Zc t).1.To/\(Zc t).1.To<=1000000:=by
 unfold Zc at h⊢;split
 .rename_i hc;have:=jr (t.toNat / 12);have:=sq (y:=1900+((t.toNat / 12:Nat):Int)) (t.toNat % 12);have:=Nl (y:=1900+((t.toNat / 12:Nat):Int)) (m:=((t.toNat % 12:Nat):Int)+1)
  grind[Bl]
 simp_all
theorem lS{t:Int}(h1:0<=t) (h2:t<=3599):ca .i64 (1900+ca .i64 (t.tdiv 12))=1900+((t.toNat / 12:Nat):Int)/\ca .i64 (t.tmod 12+1)=((t.toNat % 12:Nat):Int)+1:=by
 grind[wid]
theorem BG(t:Int):Ao t=some (decide (0<=t/\t<=3599)):=by
 grind[Ao]
theorem AG(t:Int):Rq t=some (Zc t):=by
 unfold Rq zv Zc;rw[BG,naa];by_cases h:0<=t/\t<=3599
 .obtain⟨a,b⟩:=lS h.1 h.2;have hn:t.toNat / 12<300:=by omega
  have hm:t.toNat % 12<12:=by omega
  have:=jr (t.toNat / 12);have:=sq (y:=1900+((t.toNat / 12:Nat):Int)) (t.toNat % 12);have:=Nl (y:=1900+((t.toNat / 12:Nat):Int)) (m:=((t.toNat % 12:Nat):Int)+1);rw[if_neg (by grind),a,b,YD hn hm,naa];simp only[if_neg (show¬(decide (0<=t/\t<=3599)=false) by grind),naa,Nc (y:=1900+((t.toNat / 12:Nat):Int)) (m:=((t.toNat % 12:Nat):Int)+1) (by omega) (by omega) (by omega),if_pos h];rw[if_neg (by simp),wid (by grind[Bl]) (by grind[Bl])]
 simp_all
theorem NH:Uh 300=109573:=by grind[ZF]
theorem dim_c(y:Int):Al y 1=31/\Al y 3=31/\Al y 4=30/\Al y 5=31/\Al y 6=30/\Al y 7=31/\Al y 8=31/\Al y 9=30/\Al y 10=31/\Al y 11=30/\Al y 12=31:=by
 simp[Al]
theorem RZ(y:Int):eo y 12=if CE y=true then 366 else 365:=by
 obtain⟨h1,h3,h4,h5,h6,h7,h8,h9,h10,h11,h12⟩:=dim_c y;have e:eo y 12=0+Al y 1+Al y 2+Al y 3+Al y 4+Al y 5+Al y 6+Al y 7+Al y 8+Al y 9+Al y 10+Al y 11+Al y 12:=rfl
 grind[Al]
theorem aG(n:Nat):Uh (n+1)=Uh n+eo (1900+n) 12:=by
 rw[RZ];rfl
theorem Ev:∀{i j:Nat},i<=j->Uh i<=Uh j:=by
 intro i j h
 induction h with
 |refl=>omega
 |step h ih=>
  grind[Uh]
theorem uH{y:Int}:∀{i j:Nat},i<=j->eo y i<=eo y j:=by
 intro i j h
 induction h with
 |refl=>omega
 |step h ih=>
  rename_i j;have:=Nl (y:=y) (m:=j+1)
  grind[eo]
theorem wO{t:Int}(c:0<=t):∀N,t<Uh N->∃n,n<N/\Uh n<=t/\t<Uh (n+1)
 |0,h=>by grind[Uh]
 |N+1,h=>by
  by_cases d:t<Uh N
  .obtain⟨n,a,b⟩:=wO c N d
   grind
  grind
theorem cK{y t:Int}(c:0<=t):∀N,t<eo y N->∃n,n<N/\eo y n<=t/\t<eo y (n+1)
 |0,h=>by grind[eo]
 |N+1,h=>by
  by_cases d:t<eo y N
  .obtain⟨n,a,b⟩:=cK c N d
   grind
  grind
structure Ymd (t:Int) (n m:Nat) (k:Int):Prop where
 hn:n<300
 hm:m<12
 hk:0<=k/\k<Al (1900+n) (m+1)
 ht:t=Bl n m+k
theorem jJ{t:Int}(d:0<=t) (h1:t<=109572):∃n m k,Ymd t n m k:=by
 obtain⟨n,a,a2,b⟩:=wO d 300 (by grind[NH]);rw[aG]at b;obtain⟨m,c,b2,b3⟩:=cK (y:=1900+n) (t:=t-Uh n) (by omega) 12 (by omega);refine⟨n,m,t-Uh n-eo (1900+n) m,a,c,⟨by omega,?_⟩,by grind[Bl]⟩
 grind[eo]
theorem Ymd.year{t n m k}(h:Ymd t n m k):Uh n<=t/\t<Uh (n+1):=by
 obtain⟨h1,h2,h3,h4⟩:=h;have:=(sq (y:=1900+n) m).1;have h5:=uH (y:=1900+n) (i:=m+1) (j:=12) (by omega)
 grind[eo,Bl,aG]
theorem Ymd.range{t n m k}(h:Ymd t n m k):0<=t/\t<=109572:=by
 have h1:=h.year;have:=Ev (i:=n+1) (j:=300) (by have:=h.hn;omega);rw[NH]at this;have:=jr n;omega
theorem cn(t:Int):rk t=some (decide (0<=t/\t<=109572)):=by
 grind[rk]
theorem loopR{σ β ρ:Type}{step:σ->Option (Ex σ β ρ)}{x0:σ}(S:Nat->σ) (n:Nat) (v:ρ) (hgo:∀i,i<n->step (S i)=some (.go (S (i+1)))) (hend:step (S n)=some (.ret v)) (a:x0=S 0):ja step x0=some (.inr v):=by
 subst a;have:∀k j,j+k=n->ja step (S j)=some (.inr v):=by
  intro k
  induction k with
  |zero=>simp_all[aq]
  |succ k ih=>grind[ud]
 simp_all
theorem Lr{t n m k}(h:Ymd t n m k):qk t=some (1900+(n:Int),(m:Int)+1,k+1):=by
 have hr:=h.range;have hy:=h.year;unfold qk;rw[cn,naa,if_neg (by simp_all)];have hq:t.tdiv 366=((t.toNat / 366:Nat):Int):=by grind
 have hle:t.toNat / 366<=n:=by
  have:=(jr (n+1)).2;omega
 have a:ja (bl t) (ca .i64 (1900+(ca .i64 (cab t 366))))=some (.inl (1900+(n:Int))):=by
  refine Yg (step:=bl t) (λi=>1900+((t.toNat / 366+i:Nat):Int)) (n-t.toNat / 366) _ (λi hi=>?_) ?_ ?_
  .unfold bl;have hm:=Ev (i:=t.toNat / 366+i+1) (j:=n) (by omega);have e:ca .i64 (1900+((t.toNat / 366+i:Nat):Int)+1)=1900+((t.toNat / 366+i+1:Nat):Int):=by
    rw[wid (by omega) (by have:=h.hn;omega)];omega
   rw[e,Bj (by have:=h.hn;omega),naa,if_pos (by omega)];rfl
  .unfold bl;have e:ca .i64 (1900+((t.toNat / 366+(n-t.toNat / 366):Nat):Int)+1)=1900+((n+1:Nat):Int):=by
    rw[wid (by omega) (by have:=h.hn;omega)];omega
   rw[e,Bj (by have:=h.hn;omega),naa,if_neg (by omega)]
   simp_all
  grind[wid]
 rw[a,naa];dsimp only;rw[Bj (by have:=h.hn;omega),naa];have ht:=h.ht;unfold Bl at ht;have hmm:=sq (y:=1900+n) m;have hkk:=h.hk;have hdd:=Nl (y:=1900+n) (m:=m+1);have hyy:=jr n;have hm12:=h.hm;have hn3:=h.hn;have e2:ja (Zk (1900+n)) (ca .i64 (t-Uh n),0)=some (.inr (1900+(n:Int),(m:Int)+1,k+1)):=by
  refine loopR (step:=Zk (1900+n)) (λi=>(eo (1900+n) m-eo (1900+n) i+k,(i:Int))) m _ (λi hi=>?_) ?_ ?_
  .unfold Zk;dsimp only;have b:=uH (y:=1900+n) (i:=i+1) (j:=m) (by omega);have h3:=(sq (y:=1900+n) i);have h4:=Nl (y:=1900+n) (m:=i+1);simp only[eo]at b;rw[if_pos (by omega),Ha (by omega),Nc (by omega) (by omega) (by omega),naa];rw[show((i+1:Nat):Int)=(i:Int)+1 from rfl]at *;rw[if_neg (by omega),wid (by omega) (by omega)]
   grind[eo]
  .unfold Zk;dsimp only;rw[if_pos (by omega),Ha (by omega),Nc (by omega) (by omega) (by omega),naa];rw[show((m+1:Nat):Int)=(m:Int)+1 from rfl]at *;rw[if_pos (by omega),wid (by omega) (by omega)];simp
  grind[eo,wid]
 simp_all
theorem XD{n m:Nat}{d:Int}(hn:n<300) (hm:m<12) (hd1:1<=d) (hd2:d<=Al (1900+n) (m+1)):ti (1900+n) (m+1) d=some (Bl n m+d-1,0):=by
 unfold ti;have hy:=jr n;have hd:=Nl (y:=1900+n) (m:=(m:Int)+1);rw[if_pos (by omega),if_pos (by omega),if_pos (by omega),if_pos (by omega),if_pos (by omega),Nc (by omega) (by omega) (by omega),naa,naa,if_neg (by simp_all),Bj (by omega),naa];have e:ja (Rc (1900+n) (m+1)) (Uh n,0)=some (.inl (Bl n m)):=Yg (step:=Rc (1900+n) (m+1)) (λi=>(Uh n+eo (1900+n) i,(i:Int))) m (Bl n m) (λi hi=>by
  unfold Rc;dsimp only;rw[wid (n:=(m:Int)+1-1) (by omega) (by omega),if_pos (by omega),Ha (by omega),Nc (by omega) (by omega) (by omega),naa];have:=sq (y:=1900+n) i;have:=Nl (y:=1900+n) (m:=((i+1:Nat):Int))
  grind[eo,wid]) (by
  unfold Rc;dsimp only;rw[wid (n:=(m:Int)+1-1) (by omega) (by omega),if_neg (by omega)];rfl) (by simp[eo])
 rw[e];have:=sq (y:=1900+n) m
 grind[Bl,wid]
def RS(n m:Nat) (k j:Int):Int×Int:=
 if 12*(n:Int)+m+j<0\/3599<12*(n:Int)+m+j then(0,3)else
 (Bl ((12*(n:Int)+m+j) / 12).toNat ((12*(n:Int)+m+j) % 12).toNat+min (k+1) (Al (1900+(12*(n:Int)+m+j) / 12) ((12*(n:Int)+m+j) % 12+1))-1,0)
theorem or3'{b c:Prop} [Decidable b] [Decidable c] {α:Type}{k:Bool->Option α}{x:Option Bool}(hx:x=some true):(oaa (α:=Bool) (x.bind λa=>if a=true then if¬b then some (decide c)else some true else some true) k)=k (decide (b\/c)):=by
 grind
theorem ru{t n m k}(h:Ymd t n m k) {j:Int}(hj:-3600<=j/\j<=3600):Xf t j=some (RS n m k j):=by
 have hr:=h.range;have hkk:=h.hk;have hm12:=h.hm;have hn3:=h.hn;have hdd:=Nl (y:=1900+n) (m:=m+1);unfold Xf;rw[or3' (by grind[cn]),if_neg (by simp_all),Lr h,naa];have e:ca .i64 ((ca .i64 ((ca .i64 ((ca .i64 ((ca .i64 (1900+(n:Int)-1900))*12))+((m:Int)+1)))-1))+j)=12*(n:Int)+m+j:=by
  grind[wid]
 dsimp only;rw[e];unfold RS;generalize 12*(n:Int)+m+j=K at *;by_cases c:K<0
 .simp_all
 .rw[if_pos c,naa];by_cases h2:3599<K
  .simp_all
  .rw[if_neg (by simp_all),if_neg (by omega)];have a:ca .i64 (1900+ca .i64 (cab K 12))=1900+((K / 12).toNat:Int):=by
    grind[wid]
   have b:ca .i64 (Bab K 12+1)=((K % 12).toNat:Int)+1:=by
    grind[wid]
   rw[a,b];have hd2:=Nl (y:=1900+((K / 12).toNat:Int)) (m:=((K % 12).toNat:Int)+1);rw[Nc (by omega) (by omega) (by omega),naa,XD (by omega) (by omega) (by omega) (by omega),naa]
   grind
theorem ZN{t n m k}(h:Ymd t n m k) {i:Nat}:(n+i<300->∃e,Ymd (RS n m k (12*i)).1 (n+i) m e/\(RS n m k (12*i)).2=0/\(i=0->(RS n m k (12*i)).1=t))/\(300<=n+i->RS n m k (12*i)=(0,3)):=by
 have hkk:=h.hk;have a:=h.hm;have hn3:=h.hn;constructor
 .intro hi;have b:(12*(n:Int)+m+12*i) / 12=((n+i:Nat):Int):=by omega
  have c:(12*(n:Int)+m+12*i) % 12=(m:Int):=by omega
  unfold RS;rw[if_neg (by omega),b,c];have hd2:=Nl (y:=1900+((n+i:Nat):Int)) (m:=(m:Int)+1);simp only[Bac];refine⟨min (k+1) (Al (1900+((n+i:Nat):Int)) ((m:Int)+1))-1,⟨hi,a,by omega,by omega⟩,trivial,λd=>?_⟩;subst d;have:=h.ht
  grind
 grind[RS]
theorem o5(a b:Int):∃r,ui a b=some r/\0<=r/\r<=300:=by
 unfold ui;rw[cn,cn];by_cases d:¬(0<=a/\a<=109572)
 .grind
 have d:=Aac.1 d;by_cases e:¬(0<=b/\b<=109572)
 .grind
 have e:=Aac.1 e;rw[decide_eq_true d,decide_eq_true e];simp only[naa,if_true,Bool.not_true,Eaa,if_false];obtain⟨c,k,h,ha⟩:=jJ d.1 d.2;obtain⟨f,mb,kb,hb⟩:=jJ e.1 e.2;have hya:=ha.year;have hyb:=hb.year;have hna:=ha.hn;have g:=hb.hn;by_cases hab:b<a
 .simp_all
 .rw[if_neg (by simp_all),Lr ha,naa,Lr hb,naa];dsimp only;have hle:c<=f:=by
   rcases Nat.lt_or_ge f c with m|m
   .have:=Ev (i:=f+1) (j:=c) (by omega);omega
   omega
  obtain⟨Y,hY⟩:∃Y,f=c+Y:=⟨f-c,by omega⟩;subst hY;have l:ca .i64 (1900+((c+Y:Nat):Int)-(1900+(c:Int)))=(Y:Int):=by grind[wid]
  rw[l,wid (n:=12*(Y:Int)) (by omega) (by omega),ru ha (by omega),naa];obtain⟨k',g1,g2,g3⟩:=(ZN ha (i:=Y)).1 g;have below:∀i,i<Y->(RS c k h (12*(i:Int))).2=0/\(RS c k h (12*(i:Int))).1<=b:=by
   intro i hi;obtain⟨k2,q1,q2,-⟩:=(ZN ha (i:=i)).1 (by omega);have:=q1.year;have:=Ev (i:=c+i+1) (j:=c+Y) (by omega);omega
  rw[if_pos g2,naa];by_cases hc:b<(RS c k h (12*(Y:Int))).1
  .rw[if_pos (by simp_all),naa];have hY0:Y≠0:=by
    omega
   obtain⟨Z,rfl⟩:∃Z,Y=Z+1:=⟨Y-1,by omega⟩
   grind[wid]
  grind
def OB(r:GDateRange) (d:Int):Bool:=E6 r&&(decide (r.From<=d)&&decide (d<r.To))
theorem vi(r:GDateRange) (d:Int):mc r d=some (OB r d):=by
 grind[mc,OB,Oo]
def pR(def_ date:Int) (r:GRule):Bool:=decide (r.Def=def_)&&OB r.Valid date
def jo(rules:List GRule) (q:GRule->Bool):Nat->List Int×List Int×List Int
 |0=>([],[],raa rules.length 0)
 |i+1=>
  match rules[i]? with
  |none=>jo rules q i
  |some r=>
   let p:=jo rules q i
   let a:=if 0<=r.Parent/\r.Parent<(i:Int)then(p.2.2[r.Parent.toNat]?).getD 0 else -1
   if q r=true then(p.1++[(i:Int)],p.2.1++[a],(p.2.2.set i a).set i (p.1.length:Int))else(p.1,p.2.1,p.2.2.set i a)
theorem kA{rules:List GRule}{q:GRule->Bool}:∀i,(jo rules q i).2.2.length=rules.length/\(jo rules q i).1.length<=i/\(jo rules q i).2.1.length=(jo rules q i).1.length
 |0=>by simp[jo]
 |i+1=>by
  obtain⟨h1,h2,h3⟩:=kA (rules:=rules) (q:=q) i
  grind[jo]
theorem pF{rules:List GRule}{q:GRule->Bool}:∀i,∀x∈(jo rules q i).1,0<=x/\x<(rules.length:Int)/\x<(i:Int)
 |0=>by simp[jo]
 |i+1=>by
  have h:=pF (rules:=rules) (q:=q) i;unfold jo
  grind
theorem Uv{rules:List GRule}(hr:rules.length<=1048576) {f:GRule->Option Bool}{q:GRule->Bool}(hf:∀r,f r=some (q r)):af rules f=some ((jo rules q rules.length).1,(jo rules q rules.length).2.1):=by
 unfold af;rw[nB (by omega) (by omega),naa];have hl:ja (Me rules f) (([]:List Int),([]:List Int),raa rules.length 0,0)=some (.inl ((jo rules q rules.length).1,(jo rules q rules.length).2.1)):=by
  refine Yg (λi=>((jo rules q i).1,(jo rules q i).2.1,(jo rules q i).2.2,(i:Int))) rules.length _ (λi hi=>?_) (by grind[Me]) rfl;obtain⟨h1,h2,h3⟩:=kA (rules:=rules) (q:=q) i;unfold Me;simp only[jo,qaa hi];rw[if_pos (by omega),Pa hi,naa,Ha (by omega),hf];generalize rules[i]=r;have hanc:(oaa (α:=Int) (oaa (α:=Bool) (if 0<=r.Parent then some (decide (r.Parent<(i:Int)))else some false) λd=>if d=true then(idx (jo rules q i).2.2 r.Parent).bind λb=>some b else some (-1)) λc=>some c)=some (if 0<=r.Parent/\r.Parent<(i:Int)then((jo rules q i).2.2[r.Parent.toNat]?).getD 0 else -1):=by
   by_cases g1:0<=r.Parent
   .by_cases g2:r.Parent<(i:Int)
    .rw[if_pos g1,naa,if_pos (by simp_all),if_pos ⟨g1,g2⟩,pn g1 (by omega),qaa (by omega)];rfl
    grind
   grind
  have a:(oaa (α:=Bool) (if 0<=r.Parent then some (decide (r.Parent<(i:Int)))else some false) λd=>if d=true then(idx (jo rules q i).2.2 r.Parent).bind λb=>some b else some (-1))=some (if 0<=r.Parent/\r.Parent<(i:Int)then((jo rules q i).2.2[r.Parent.toNat]?).getD 0 else -1):=by
   simp_all
  rw[a,naa];generalize (if 0<=r.Parent/\r.Parent<(i:Int)then((jo rules q i).2.2[r.Parent.toNat]?).getD 0 else -1)=anc;rw[Pa (i:=i) (by omega),naa,Ty (by omega),naa,naa];cases q r
  .simp
  .rw[if_pos rfl,Pa (i:=i) (by simp_all),naa,Ty (by simp_all),naa,kj (by grind),naa,kj (by grind),naa];rfl
 simp_all
def PN(neg:Bool) (mode:Int) (q r d:Nat):Prop:=
 (mode=0/\neg=true/\0<r)\/(mode=1/\neg=false/\0<r)\/(mode=3/\0<r)\/(mode=4/\d<=r+r)\/(mode=5/\(d<r+r\/(d=r+r/\q % 2=1)))
instance (neg:Bool) (mode:Int) (q r d:Nat):Decidable (PN neg mode q r d):=by unfold PN;infer_instance
def vr(neg:Bool) (mode:Int) (q r d:Nat):Nat:=if PN neg mode q r d then q+1 else q
theorem Dx(neg:Bool) (mode:Int) (q r d:Nat):q<=vr neg mode q r d/\vr neg mode q r d<=q+1:=by
 grind[vr]
def SC(neg:Bool) (n:Nat):Int:=if neg=true then -(n:Int)else n
theorem A3(neg:Bool) (n:Nat):(SC neg n).natAbs=n:=by grind[SC]
theorem wuN{n:Int}(h1:0<=n) (h2:n<18446744073709551616):ca .u64 n=n:=by
 grind[ca]
theorem jX(q:Nat):((Bab (q:Int) 2)==1)=decide (q % 2=1):=by
 grind
theorem half{r d q:Nat}:(if¬((d:Int)-r)<r then if(r:Int)=d-r then some (decide (q % 2=1))else some false else some true)=some (decide (d<r+r\/(d=r+r/\q % 2=1))):=by
 by_cases a:(d:Int)-r<r
 .grind
 .rw[if_pos a];by_cases h2:(r:Int)=d-r
  .rw[if_pos h2];congr 1;grind
  .rw[if_neg h2];simp;omega
theorem TK{q r d:Nat}(neg:Bool) (mode:Int) (hq:q<9223372036854775808) (hr:r<d) (hd:d<9223372036854775808):De q r d neg mode=some ((vr neg mode q r d:Nat):Int):=by
 unfold De vr;rw[wuN (n:=(d:Int)-r) (by omega) (by omega),wuN (n:=(q:Int)+1) (by omega) (by omega),jX,half];by_cases a:r=0
 .subst a;rw[if_pos (by rfl),if_neg (by unfold PN;omega)]
 .rw[if_neg (by omega)];unfold PN
  grind
theorem cp(n:Int):Cg n=some (decide (0<=n/\n<=5)):=by
 grind[Cg]
theorem beyO{n k x:Int}(hx:x = -k):(oaa (α:=Bool) (if¬k<n then some (decide (n<x))else some true) λj=>some j)=some (decide (k<n\/n < -k)):=by
 subst hx;grind
theorem Dh{n k:Int}(h1:0<=k) (h2:k<9223372036854775808):Se n k=some (decide (k<n\/n < -k)):=by
 grind[Se,beyO,wid]
theorem og{n:Int}(h1:-9223372036854775808<=n) (h2:n<9223372036854775808):ee n=some (n.natAbs:Int):=by
 grind[ee,ca]
theorem Pw{q:Nat}(b:Bool) (h:q<9223372036854775808):qn q b=some (SC b q):=by
 grind[qn,SC,wid]
theorem quoU{a b:Nat}(h:0<b) (ha:a<9223372036854775808):quo .u64 (a:Int) (b:Int)=some ((a / b:Nat):Int):=by
 unfold quo;have:=kad a b;rw[if_neg (by omega),Cad (by omega),←Int.natCast_ediv]
 grind[wuN]
theorem remU{a b:Nat}{k:IntKind}(h:0<b):rem k (a:Int) (b:Int)=some ((a % b:Nat):Int):=by
 grind[rem]
def qO(n d mode:Int):Int×Int:=
 if¬(0<=mode/\mode<=5)then(0,1)else
 if d=0 then(0,12)else
 if(4611686018427387904<n\/n < -4611686018427387904)\/(4611686018427387904<d\/d < -4611686018427387904)then(0,3)else
 (SC (!(decide (n<0)==decide (d<0))) (vr (!(decide (n<0)==decide (d<0))) mode (n.natAbs / d.natAbs) (n.natAbs % d.natAbs) d.natAbs),0)
theorem or2{a b:Prop} [Decidable a] [Decidable b] {o:Option Bool}(h:o=some (decide b)) {α:Type}{k:Bool->Option α}:(oaa (α:=Bool) ((some (decide a)).bind λx=>if x=false then o.bind λy=>some y else some true) k)=k (decide (a\/b)):=by
 grind
theorem Oj(n d mode:Int):Re n d mode=some (qO n d mode):=by
 unfold Re qO;rw[cp,naa];by_cases hm:0<=mode/\mode<=5
 .rw[if_neg (by simp_all),if_neg (waa.2 hm)];by_cases a:d=0
  .simp_all
  .rw[if_neg a,if_neg a,Dh (by omega) (by omega),or2 (Dh (by omega) (by omega))];by_cases hb:(4611686018427387904<n\/n < -4611686018427387904)\/(4611686018427387904<d\/d < -4611686018427387904)
   .simp_all
   .rw[if_neg (by simp_all),if_neg hb,og (by omega) (by omega),naa,og (by omega) (by omega),naa];have hl:=kad n.natAbs d.natAbs;have hr:=(Dx (!(decide (n<0)==decide (d<0))) mode (n.natAbs / d.natAbs) (n.natAbs % d.natAbs) d.natAbs).2;rw[quoU (by omega) (by omega),naa,remU (by omega),naa,TK _ _ (by omega) (Gac _ (by omega)) (by omega),naa,Pw _ (by omega)];rfl
 simp_all
def mdS(c num den mode:Int):Int×Int:=
 if¬(0<=mode/\mode<=5)then(0,1)else
 if den=0 then(0,12)else
 if(1000000000000000<c\/c < -1000000000000000)\/(1000000000<num\/num < -1000000000)\/(1000000000<den\/den < -1000000000)then(0,3)else
 if vr (!((!((decide (c<0))==(decide (num<0))))==(decide (den<0)))) mode (c.natAbs*num.natAbs / den.natAbs) (c.natAbs*num.natAbs % den.natAbs) den.natAbs<=1000000000000000 then
  (SC (!((!((decide (c<0))==(decide (num<0))))==(decide (den<0)))) (vr (!((!((decide (c<0))==(decide (num<0))))==(decide (den<0)))) mode (c.natAbs*num.natAbs / den.natAbs) (c.natAbs*num.natAbs % den.natAbs) den.natAbs),0)
 else(0,3)
theorem or3{a b c:Prop} [Decidable a] [Decidable b] [Decidable c] {o p:Option Bool}(h:o=some (decide b)) (h2:p=some (decide c)) {α:Type}{k:Bool->Option α}:(oaa (α:=Bool) ((some (decide a)).bind λx=>if x=false then o.bind λy=>if y=false then p.bind λz=>some z else some true else some true) k)=k (decide (a\/b\/c)):=by
 grind
theorem UO{x y:Nat}(hx:x<18446744073709551616) (hy:y<18446744073709551616):Zd x y=some (((x*y / 18446744073709551616:Nat):Int),((x*y % 18446744073709551616:Nat):Int)):=by
 grind[Zd]
theorem ZT{p z:Nat}(hp:p / 18446744073709551616<z) (hz:z<18446744073709551616):mf ((p / 18446744073709551616:Nat):Int) ((p % 18446744073709551616:Nat):Int) z=some (((p / z:Nat):Int),((p % z:Nat):Int)):=by
 grind[mf]
theorem XG{p z:Nat}(a:0<z) (h:z<=p / 18446744073709551616):18446744073709551616<=p / z:=by
 rw[Nat.le_div_iff_mul_le a];omega
theorem Ow(c num den mode:Int):bp c num den mode=some (mdS c num den mode):=by
 unfold bp mdS;rw[cp,naa];by_cases hm:0<=mode/\mode<=5
 .rw[if_neg (by simp_all),if_neg (waa.2 hm)];by_cases e:den=0
  .simp_all
  .rw[if_neg e,if_neg e,Dh (by omega) (by omega),or3 (Dh (by omega) (by omega)) (Dh (by omega) (by omega))];by_cases hb:(1000000000000000<c\/c < -1000000000000000)\/(1000000000<num\/num < -1000000000)\/(1000000000<den\/den < -1000000000)
   .simp_all
   .rw[if_neg (by simp_all),if_neg hb,og (by omega) (by omega),naa,og (by omega) (by omega),naa];generalize (!((!((decide (c<0))==(decide (num<0))))==(decide (den<0))))=ng;obtain⟨x,hx⟩:∃x,c.natAbs=x:=⟨_,rfl⟩;obtain⟨y,k⟩:∃x,num.natAbs=x:=⟨_,rfl⟩;obtain⟨z,f⟩:∃x,den.natAbs=x:=⟨_,rfl⟩;have a:=og (n:=den) (by omega) (by omega);rw[f]at a;rw[hx,k,f,a];have g:x<=1000000000000000:=by omega
    have bY:y<=1000000000:=by omega
    have d:z<=1000000000/\0<z:=by omega
    have b:x*y<=1000000000000000000000000:=Oab (Lac g bY) (by decide);rw[UO (by omega) (by omega)];simp only[naa];generalize x*y=p at b⊢;by_cases j:z<=p / 18446744073709551616
    .rw[if_pos (by omega),if_neg];have h:=(Dx ng mode (p / z) (p % z) z).1;have h2:=XG d.2 j;omega
    .rw[if_neg (by omega),ZT (by omega) (by omega)];simp only[naa];have h:=Dx ng mode (p / z) (p % z) z;by_cases hq:p / z<=1000000000000000
     .rw[if_neg (by omega),TK _ _ (by omega) (Gac _ d.2) (by omega),naa];by_cases i:vr ng mode (p / z) (p % z) z<=1000000000000000
      .rw[if_neg (by omega),if_pos i,Pw _ (by omega)];rfl
      grind
     grind
 simp_all
theorem Lu(n:Int):Pj n=some (decide (0<=n/\n<=5)):=by
 grind[Pj]
theorem Nn{n k:Int}(h1:0<=k) (h2:k<9223372036854775808):Li n k=some (decide (k<n\/n < -k)):=by
 grind[Li,beyO,wid]
theorem TI(c r mode:Int):fo c r mode=some (mdS c r 1000000 mode):=by
 grind[fo,Ow]
def qS(mode q r d:Int):Prop:=
 r≠0/\(mode=1\/(mode=2/\q<0)\/(mode=3/\0<=q)\/(mode=4/\(d-r<r\/(r=d-r/\0<=q)))\/(mode=5/\(d-r<r\/(r=d-r/\q % 2≠0))))
instance (mode q r d:Int):Decidable (qS mode q r d):=by unfold qS;infer_instance
def EG(mode q r d:Int):Int:=if qS mode q r d then q+1 else q
theorem Wy(N:Int) (d:Nat) (mode:Int) (hd:0<d) (neg:Bool) (g:N=0\/neg=decide (N<0)) (hm:0<=mode/\mode<=5) :
 SC neg (vr neg mode (N.natAbs / d) (N.natAbs % d) d)=EG mode (N / d) (N % d) d:=by
 have m:=Nat.div_add_mod N.natAbs d;have n:=Gac N.natAbs hd;obtain⟨a,ha⟩:∃a,N.natAbs / d=a:=⟨_,rfl⟩;obtain⟨b,hb⟩:∃a,N.natAbs % d=a:=⟨_,rfl⟩;rw[ha,hb]at m;rw[hb]at n;rw[ha,hb];by_cases hN:0<=N
 .have p:N=(N.natAbs:Int):=by omega
  have q1:N / (d:Int)=(a:Int):=by grind
  have i:N % (d:Int)=(b:Int):=by grind
  rw[q1,i];have hn:b=0\/neg=false:=by
   grind
  have key:PN neg mode a b d↔qS mode a b d:=by
   unfold PN qS
   grind
  have q:∀k:Nat,(b=0->k=a)->SC neg k=(k:Int):=λk hk=>by
   unfold SC;rcases hn with h|h
   .have h0:a=0\/neg=false:=by
     rcases g with o|o
     .left;subst o;simp at ha;omega
     grind
    grind
   grind
  unfold vr EG;by_cases c:PN neg mode a b d
  .rw[if_pos c,if_pos (key.1 c)];rw[q _ (λl=>absurd c (by rw[l];unfold PN;omega))];omega
  grind
 .have p:N = -(N.natAbs:Int):=by omega
  have hn:neg=true:=by
   grind
  subst hn;have f:N = -((d:Int)*a+b):=by omega
  unfold SC;simp only[if_true];by_cases j:b=0
  .have q1:N / (d:Int) = -(a:Int):=by
    rw[f,j];simp only[Int.natCast_zero,Int.add_zero];rw[←Int.mul_neg,Int.mul_ediv_cancel_left _ (by omega)]
   have i:N % (d:Int)=0:=by
    rw[f,j];simp
   rw[q1,i];unfold vr EG;rw[if_neg (by rw[j];unfold PN;omega),if_neg (by simp[qS])]
  .have e:N=((d:Int)-b)+d*(-(a:Int)-1):=by grind
   have q1:N / (d:Int) = -(a:Int)-1:=by
    rw[e,Int.add_mul_ediv_left _ _ (by omega),Int.ediv_eq_zero_of_lt (by omega) (by omega)];omega
   have i:N % (d:Int)=(d:Int)-b:=by
    rw[e,Int.add_mul_emod_self_left,Int.emod_eq_of_lt (by omega) (by omega)]
   rw[q1,i];have key:PN true mode a b d↔¬qS mode (-(a:Int)-1) ((d:Int)-b) d:=by
    unfold PN qS at *
    grind
   grind[vr,EG]
def TZ(a b mode:Int):Int×Int:=
 if¬(0<=mode/\mode<=5)then(0,1)else
 if(1000000000<a\/a < -1000000000)\/(1000000000<b\/b < -1000000000)then(0,3)else
 if 1000000000<EG mode (a*b / 1000000) (a*b % 1000000) 1000000\/EG mode (a*b / 1000000) (a*b % 1000000) 1000000 < -1000000000 then(0,3)else
 (EG mode (a*b / 1000000) (a*b % 1000000) 1000000,0)
theorem lR{a b:Int}(h1:¬(1000000000<a\/a < -1000000000)) (h2:¬(1000000000<b\/b < -1000000000)):-1000000000000000000<=a*b/\a*b<=1000000000000000000:=by
 have:=Lac (show a.natAbs<=1000000000 by omega) (show b.natAbs<=1000000000 by omega);rw[←dae]at this;omega
theorem kN(a b mode:Int):Vw a b mode=some (TZ a b mode):=by
 unfold Vw TZ;rw[Lu,naa];by_cases hm:0<=mode/\mode<=5
 .rw[if_neg (by simp_all),if_neg (waa.2 hm),Nn (by omega) (by omega),or2 (Nn (by omega) (by omega))];by_cases hb:(1000000000<a\/a < -1000000000)\/(1000000000<b\/b < -1000000000)
  .simp_all
  .rw[if_neg (by simp_all),if_neg hb,Oj];have c:=lR (λh=>hb (.inl h)) (λh=>hb (.inr h));generalize a*b=p at c⊢;rw[wid (by omega) (by omega)];have d:SC (!(decide (p<0)==decide ((1000000:Int)<0))) (vr (!(decide (p<0)==decide ((1000000:Int)<0))) mode (p.natAbs / 1000000) (p.natAbs % 1000000) 1000000)=EG mode (p / 1000000) (p % 1000000) 1000000:=Wy p 1000000 mode (by decide) (!(decide (p<0)==decide ((1000000:Int)<0))) (.inr (by simp)) hm;unfold qO;rw[if_neg (waa.2 hm),if_neg (by decide),if_neg (by omega)];simp only[naa];rw[show(1000000:Int).natAbs=1000000 from rfl,d,if_neg (by simp),Nn (by omega) (by omega),naa]
   grind
 simp_all
theorem modeO{n:Int}{α:Type}{k:Bool->Option α}:(oaa (α:=Bool) (if¬n<0 then some (decide (5<n))else some true) k)=k (decide (¬(0<=n/\n<=5))):=by
 grind
theorem mN(mode q r d:Int):q<=EG mode q r d/\EG mode q r d<=q+1:=by grind[EG]
def frS(num den mode:Int):Int×Int:=
 if¬(0<=mode/\mode<=5)then(0,1)else
 if den=0 then(0,12)else
 if(1000000000000000<num\/num < -1000000000000000)\/(1000000000000000<den\/den < -1000000000000000)then(0,3)else
 if vr (!(decide (num<0)==decide (den<0))) mode (num.natAbs*1000000 / den.natAbs) (num.natAbs*1000000 % den.natAbs) den.natAbs<=1000000000 then
  (SC (!(decide (num<0)==decide (den<0))) (vr (!(decide (num<0)==decide (den<0))) mode (num.natAbs*1000000 / den.natAbs) (num.natAbs*1000000 % den.natAbs) den.natAbs),0)
 else(0,3)
theorem wN{q r d:Nat}(neg:Bool) (mode:Int) (hr:r<d) (hd:d<9223372036854775808):On q r d neg mode=some (decide (PN neg mode q r d)):=by
 unfold On;rw[wuN (n:=(d:Int)-r) (by omega) (by omega),jX,half];by_cases b:r=0
 .subst b;rw[if_pos (by rfl)];congr 1;symm;rw[decide_eq_false_iff_not];unfold PN;omega
 .rw[if_neg (by omega)];unfold PN;have hp:0<r:=by omega
  by_cases e0:mode=0
  .simp_all
  by_cases e1:mode=1
  .simp_all
  by_cases e3:mode=3
  .simp_all
  by_cases a:mode=4
  .subst a;simp;omega
  grind
theorem lD{n:Int}(h1:-9223372036854775808<n) (h2:n<9223372036854775808):ca .u64 (max n (ca .i64 (-n)))=((n.natAbs:Nat):Int):=by
 grind[wid,wuN]
theorem vB(num den mode:Int):Em num den mode=some (frS num den mode):=by
 unfold Em frS;rw[Lu,naa];by_cases hm:0<=mode/\mode<=5
 .rw[if_neg (by simp_all),if_neg (waa.2 hm)];by_cases e:den=0
  .simp_all
  .rw[if_neg e,if_neg e,Nn (by omega) (by omega),or2 (Nn (by omega) (by omega))];by_cases hb:(1000000000000000<num\/num < -1000000000000000)\/(1000000000000000<den\/den < -1000000000000000)
   .simp_all
   .rw[if_neg (by simp_all),if_neg hb,lD (by omega) (by omega),lD (by omega) (by omega)];have a:(¬(decide (num<0))=(decide (den<0)))↔(!(decide (num<0)==decide (den<0)))=true:=by
     simp
    generalize (!(decide (num<0)==decide (den<0)))=ng at a⊢;obtain⟨x,hx⟩:∃x,num.natAbs=x:=⟨_,rfl⟩;obtain⟨z,h⟩:∃x,den.natAbs=x:=⟨_,rfl⟩;rw[hx,h];have bx:x<=1000000000000000:=by omega
    have d:z<=1000000000000000/\0<z:=by omega
    rw[show(1000000:Int)=((1000000:Nat):Int)from rfl,UO (by omega) (by omega)];simp only[naa];have b:x*1000000<=1000000000000000000000:=by omega
    generalize x*1000000=p at b⊢;by_cases g:z<=p / 18446744073709551616
    .rw[if_pos (by omega),if_neg];have f:=(Dx ng mode (p / z) (p % z) z).1;have h2:=XG d.2 g;omega
    .rw[if_neg (by omega),ZT (by omega) (by omega)];simp only[naa];have f:=Dx ng mode (p / z) (p % z) z;by_cases hq:p / z<=1000000000
     .rw[if_neg (by omega),wN _ _ (Gac _ d.2) (by omega),wid (n:=((p / z:Nat):Int)) (by omega) (by omega),wid (n:=((p / z:Nat):Int)+1) (by omega) (by omega)];simp only[naa,decide_eq_true_eq];have hfin:∀R:Nat,R<=1000000001->(if(1000000000:Int)<(R:Int)then some ((0:Int),(3:Int))else oaa (α:=Int) (if¬(decide (num<0))=(decide (den<0))then some (ca .i64 (-(R:Int)))else some (R:Int)) λc=>some (c,0))=some (if R<=1000000000 then(SC ng R,0)else(0,3)):=by
       intro R hR;by_cases hr:R<=1000000000
       .rw[if_neg (by omega),if_pos hr];unfold SC;by_cases hn:ng=true
        .rw[if_pos (a.2 hn),if_pos hn,naa,wid (by omega) (by omega)]
        simp_all
       grind
      grind[vr]
     grind
 simp_all
def rtS(c unit mode:Int):Int×Int:=
 if¬(0<=mode/\mode<=5)then(0,1)else
 if unit<1 then(0,12)else
 if(1000000000000000<c\/c < -1000000000000000)\/1000000000000000<unit then(0,3)else
 if 1000000000000000<SC (decide (c<0)) (vr (decide (c<0)) mode (c.natAbs / unit.natAbs) (c.natAbs % unit.natAbs) unit.natAbs)*unit\/SC (decide (c<0)) (vr (decide (c<0)) mode (c.natAbs / unit.natAbs) (c.natAbs % unit.natAbs) unit.natAbs)*unit < -1000000000000000 then(0,3)else
 (SC (decide (c<0)) (vr (decide (c<0)) mode (c.natAbs / unit.natAbs) (c.natAbs % unit.natAbs) unit.natAbs)*unit,0)
theorem jW{c unit mode:Int}{ng:Bool}(hc:¬(1000000000000000<c\/c < -1000000000000000)) (hu:1<=unit/\unit<=1000000000000000):-2000000000000000<=SC ng (vr ng mode (c.natAbs / unit.natAbs) (c.natAbs % unit.natAbs) unit.natAbs)*unit/\SC ng (vr ng mode (c.natAbs / unit.natAbs) (c.natAbs % unit.natAbs) unit.natAbs)*unit<=2000000000000000:=by
 have a:=(Dx ng mode (c.natAbs / unit.natAbs) (c.natAbs % unit.natAbs) unit.natAbs).2;have h2:(SC ng (vr ng mode (c.natAbs / unit.natAbs) (c.natAbs % unit.natAbs) unit.natAbs)*unit).natAbs<=2000000000000000:=by
  rw[dae,A3];have h3:=Nat.mul_le_mul_right unit.natAbs a;have h4:=Nat.div_mul_le_self c.natAbs unit.natAbs
  grind
 omega
theorem or2'{a b:Prop} [Decidable a] [Decidable b] {α:Type}{k:Bool->Option α}:(oaa (α:=Bool) ((some (decide a)).bind λx=>if x=false then some (decide b)else some true) k)=k (decide (a\/b)):=by
 grind
theorem NC(c unit mode:Int):Mn c unit mode=some (rtS c unit mode):=by
 unfold Mn rtS;rw[cp,naa];by_cases hm:0<=mode/\mode<=5
 .rw[if_neg (by simp_all),if_neg (waa.2 hm)];by_cases d:unit<1
  .simp_all
  .rw[if_neg d,if_neg d,Dh (by omega) (by omega),or2'];by_cases hb:(1000000000000000<c\/c < -1000000000000000)\/1000000000000000<unit
   .simp_all
   .rw[if_neg (by simp_all),if_neg hb,Oj];have a:=jW (c:=c) (unit:=unit) (mode:=mode) (ng:=decide (c<0)) (λh=>hb (.inl h)) (by omega);unfold qO;rw[if_neg (waa.2 hm),if_neg (by omega),if_neg (by omega)];have hu:decide (unit<0)=false:=by grind
    simp only[naa,hu];have b:(!(decide (c<0)==false))=decide (c<0):=by simp
    rw[b];generalize SC (decide (c<0)) (vr (decide (c<0)) mode (c.natAbs / unit.natAbs) (c.natAbs % unit.natAbs) unit.natAbs)*unit=q at a⊢;rw[if_neg (by simp),wid (by omega) (by omega),Dh (by omega) (by omega),naa]
    grind
 simp_all
theorem OO{σ β ρ:Type}{step:σ->Option (Ex σ β ρ)}(I:σ->Prop) (a:σ->Nat) (Q:β->Prop) (h:∀s,I s->(∃s',step s=some (.go s')/\I s'/\a s'<a s)\/∃b,step s=some (.brk b)/\Q b) :
 ∀(n:Nat) (s:σ),a s<=n->I s->∃b,ja step s=some (.inl b)/\Q b
 |0,s,hn,hi=>by
  grind[Gb]
 |n+1,s,hn,hi=>by
  rcases h s hi with⟨s',c,h2,h3⟩|⟨b,c,h2⟩
  .obtain⟨b,h4,h5⟩:=OO I a Q h n s' (by omega) h2
   grind[ud]
  grind[Gb]
theorem wu{n:Int}(h1:0<=n) (h2:n<9223372036854775808):ca .u64 n=n:=by
 grind[ca]
theorem mid{i j:Nat}(h:i+j<4611686018427387904):ca .i64 (Int.fdiv (ca .u64 (ca .i64 ((i:Int)+(j:Int)))) 2)=(((i+j) / 2:Nat):Int):=by
 grind[wid,wu]
theorem QD(x y:Int):cmp_Less_int x y=some (decide (x<y)):=by
 grind[cmp_Less_int,cmp_isNaN_int]
theorem DW{q:List Int}{t:Int}(hq:q.Pairwise (·<·)) (hl:q.length<=1048576):∃(k:Nat) (b:Bool),Va q t=some ((k:Int),b)/\k<=q.length/\(∀i (hi:i<q.length),i<k->q[i]<t)/\∀i (hi:i<q.length),k<=i->t<=q[i]:=by
 have f:=Mab.1 hq;unfold Va;obtain⟨b,m,k,rfl,h2,a,c⟩:=OO (step:=yb q t) (λs=>∃i j:Nat,s=((i:Int),(j:Int))/\i<=j/\j<=q.length/\(∀p (f:p<q.length),p<i->q[p]<t)/\∀p (f:p<q.length),j<=p->t<=q[p]) (λs=>(s.2-s.1).toNat) (λb=>∃k:Nat,b=(k:Int)/\k<=q.length/\(∀i (hi:i<q.length),i<k->q[i]<t)/\∀i (hi:i<q.length),k<=i->t<=q[i]) (by
  rintro s ⟨i,j,rfl,a1,g,h,l⟩;unfold yb;dsimp only;by_cases hij:i<j
  .left;rw[if_pos (by omega),mid (by omega),Pa (show(i+j) / 2<q.length by omega),naa,QD,naa];by_cases hx:q[(i+j) / 2]'(by omega)<t
   .refine⟨_,by rw[if_pos (by simp_all),Ha (by omega)],⟨(i+j) / 2+1,j,rfl,by omega,g,λp d e=>?_,l⟩,by omega⟩
    grind
   .refine⟨_,by grind,⟨i,(i+j) / 2,rfl,by omega,by omega,h,λp d e=>?_⟩,by omega⟩
    grind
  grind) q.length (0,(q.length:Int)) (by simp) ⟨0,q.length,rfl,by omega,by omega,by omega,by omega⟩
 rw[m,naa];dsimp only;unfold oh;by_cases hk:k<q.length
 .rw[if_pos (by omega),Pa hk,naa];by_cases he:q[k]=t
  .exact⟨k,true,by grind,h2,a,c⟩
  .exact⟨k,false,by grind,h2,a,c⟩
 .exact⟨k,false,by grind,h2,a,c⟩
def Sw(to:Int):Int->List Int->List GDateRange
 |a,[]=>[⟨a,to⟩]
 |a,x::l=>⟨a,x⟩::Sw to x l
theorem CH{to:Int}:∀{a:Int}{l:List Int},(Sw to a l).length=l.length+1
 |_,[]=>rfl
 |_,x::l=>by simp[Sw,CH (a:=x) (l:=l)]
def inside(r:GDateRange) (x:Int):Bool:=decide (r.From<x)&&decide (x<r.To)
theorem KD{q:List Int}{r:GDateRange}(hq:q.Pairwise (·<·)) (hl:q.length<=65536) (hr:0<=r.From/\r.From<r.To/\r.To<=1000000):bn r q=some (Sw r.To r.From (q.filter (inside r))):=by
 unfold bn;rw[wid (by omega) (by omega)];obtain⟨k,b,f,h2,h3,h4⟩:=DW (t:=r.From+1) hq (by omega);rw[f,naa];dsimp only;have hp:=Mab.1 hq;have hf:q.filter (inside r)=(q.drop k).filter λx=>decide (x<r.To):=by
  conv=>lhs;rw[←List.take_append_drop k q]
  rw[Jab];have e:(q.take k).filter (inside r)=[]:=by
   rw[Mac];intro x hx;obtain⟨i,hi,rfl⟩:=Aaa hx
   grind[inside]
  rw[e,Vaa];refine List.filter_congr λx hx=>?_;obtain⟨i,hi,rfl⟩:=Aaa hx
  grind[inside]
 rw[hf];obtain⟨⟨s2,l⟩,g1,g2,g3⟩:=OO (step:=Rn r q) (λs=>∃j:Nat,s.2.2=(j:Int)/\j<=q.length/\s.2.1.length<=j/\Sw r.To r.From ((q.drop k).filter λx=>decide (x<r.To))=s.2.1++Sw r.To s.1 ((q.drop j).filter λx=>decide (x<r.To))) (λs=>((q.length:Int)-s.2.2).toNat) (λb=>b.2.length<=q.length/\Sw r.To r.From ((q.drop k).filter λx=>decide (x<r.To))=b.2++[⟨b.1,r.To⟩]) (by
  rintro⟨s2,l,s4⟩ ⟨j,d,g,h,c⟩;dsimp only at d g h c;subst d;unfold Rn;dsimp only;by_cases hj:j<q.length
  .rw[if_pos (by omega),Pa hj,naa,naa];have hd:q.drop j=q[j]::q.drop (j+1):=mab hj;by_cases hx:q[j]<r.To
   .left;refine⟨_,by rw[if_pos (by grind),naa,kj (by grind),naa,Ha (by omega)],⟨j+1,rfl,by omega,by grind,?_⟩,by grind⟩
    grind[Sw]
   .right;refine⟨_,by rw[if_neg (by grind)],by grind,?_⟩;dsimp only;have:(q.drop j).filter (λx=>decide (x<r.To))=[]:=by
     rw[Mac];intro x a;obtain⟨i,hi,rfl⟩:=Aaa a
     grind
    rw[c,this];rfl
  .right;refine⟨_,by rw[if_neg (by omega)];rfl,by grind,?_⟩;dsimp only;rw[c,List.drop_eq_nil_of_le (by omega)];rfl) q.length (r.From,[],(k:Int)) (by simp) ⟨k,rfl,h2,by simp,by simp⟩
 grind[kj]
theorem BT{a b:List Int}(ha:a.length<=1048576) (hb:b.length<=1048576):Sf [a,b]=some (a++b):=by
 unfold Sf;have c:ja (Uf [a,b]) (0,0)=some (.inl ((a.length:Int)+b.length)):=by
  rw[ud (s':=((a.length:Int),1)),ud (s':=((a.length:Int)+b.length,2)),Gb (b:=(a.length:Int)+b.length)]
  all_goals grind[Uf,idx,wid]
 rw[c,naa];dsimp only;have d:Rf ((a.length:Int)+b.length)=some []:=by
  unfold Rf;rw[if_neg (by omega)];have w0:ca .i64 (0-0)=0:=wid (by omega) (by omega);rw[w0,Int.sub_zero,wid (by omega) (by omega)]
  grind[mka,Tr]
 rw[d,naa];have e3:ja (Tf [a,b]) ([],0)=some (.inl (a++b)):=by
  rw[ud (s':=(a,1)),ud (s':=(a++b,2)),Gb (b:=a++b)]
  all_goals grind[Tf,idx,kj,wid]
 simp_all
def LawSz(l:GLaw):Prop:=∀t∈l.Tables,t.Rows.length<=1125899906842624
theorem dV{σ1 σ2 β1 β2 ρ1 ρ2:Type}{s1:σ1->Option (Ex σ1 β1 ρ1)}{s2:σ2->Option (Ex σ2 β2 ρ2)}(I:σ1->σ2->Prop) (a:σ1->Nat) (QB:β1->β2->Prop) (QR:ρ1->ρ2->Prop)
 (h:∀x y,I x y->(∃d e,s1 x=some (.go d)/\s2 y=some (.go e)/\I d e/\a d<a x)\/(∃b c,s1 x=some (.brk b)/\s2 y=some (.brk c)/\QB b c)\/∃b c,s1 x=some (.ret b)/\s2 y=some (.ret c)/\QR b c) :
 ∀(n:Nat) x y,a x<=n->I x y->(∃b c,ja s1 x=some (.inl b)/\ja s2 y=some (.inl c)/\QB b c)\/∃b c,ja s1 x=some (.inr b)/\ja s2 y=some (.inr c)/\QR b c:=by
 intro n
 induction n with
 |zero=>
  grind[Gb,aq]
 |succ n ih=>
  grind[ud,Gb,aq]
def lV(date key:Int) (r:GRow):Bool:=OB r.Valid date&&(decide (r.Lo<=key)&&decide (key<r.Hi))
theorem zA(r:GRow) (date key:Int):nf r date key=some (lV date key r):=by
 grind[nf,lV,vi]
noncomputable def cC(t:GTable) (date key:Int):Int×Bool:=
 match ff (λi=>if(t.Rows[i]?.any (lV date key))=true then some ((i:Int),true)else none) t.Rows.length with
 |some v=>v
 |none=>(0,false)
theorem HF{t:GTable}(hl:t.Rows.length<=1048576) (date key:Int):xn t date key=some (cC t date key):=by
 have a:ja (Lb t.Rows (λy=>nf y date key)) 0=some (Ki () (ff (λi=>if(t.Rows[i]?.any (lV date key))=true then some ((i:Int),true)else none) t.Rows.length)):=
  Th (λi=>(i:Int)) _ t.Rows.length () (λi hi _=>by
   unfold Lb;rw[if_pos (by omega),Pa hi,qaa hi]
   grind[aD,zA,Ha]) (λ_=>by grind[Lb])
 unfold xn Wb cC;rw[a,naa];cases h:ff (λi=>if(t.Rows[i]?.any (lV date key))=true then some ((i:Int),true)else none) t.Rows.length<;>rfl
theorem aV{t:GTable}{date key:Int}(h:(cC t date key).2=true):∃i:Nat,(cC t date key).1=(i:Int)/\i<t.Rows.length:=by
 unfold cC at h⊢;split
 .rename_i v hv;obtain⟨i,h1,h2,-⟩:=Ob.1 hv
  grind
 simp_all
def GJ(len n:Nat):Option (Nat×Nat):=if 1000000000000000<len*n / 1000000 then none else some (len*n / 1000000,len*n % 1000000)
def fM(neg:Bool):Option (Nat×Nat)->Int×Int×Bool
 |none=>(0,0,false)
 |some (q,r)=>(SC neg q,SC neg r,true)
theorem fx{len:Nat}{n:Int}(a:len<=1000000000000000) (h2:-1000000000<=n/\n<=1000000000):Kh len n=some (fM (decide (n<0)) (GJ len n.natAbs)):=by
 unfold Kh;have e:(if n<0 then some (ca .u64 (-(ca .u64 n)))else some (ca .u64 n))=some (n.natAbs:Int):=by
  have:=og (n:=n) (by omega) (by omega);exact this
 rw[e,naa,wuN (n:=(len:Int)) (by omega) (by omega),UO (by omega) (by omega),naa];have b:len*n.natAbs<=1000000000000000*1000000000:=Lac a (by omega);unfold GJ;generalize len*n.natAbs=p at b⊢;dsimp only;rw[if_neg (by omega),show(1000000:Int)=((1000000:Nat):Int)from rfl,ZT (by omega) (by omega),naa];dsimp only;by_cases hq:1000000000000000<p / 1000000
 .rw[if_pos (by omega),if_pos hq];rfl
 .rw[if_neg (by omega),if_neg hq,wid (n:=((p / 1000000:Nat):Int)) (by omega) (by omega),wid (n:=((p % 1000000:Nat):Int)) (by omega) (by omega)];by_cases hn:n<0
  .rw[if_pos hn,wid (by omega) (by omega),wid (by omega) (by omega),decide_eq_true hn];rfl
  .rw[if_neg hn,decide_eq_false hn];rfl
theorem gM{neg:Bool}{len n:Nat}:-1000000000000000<=(fM neg (GJ len n)).1/\(fM neg (GJ len n)).1<=1000000000000000/\-1000000<=(fM neg (GJ len n)).2.1/\(fM neg (GJ len n)).2.1<=1000000:=by
 grind[GJ,fM,SC]
def rsS(w m mode:Int):Int:=EG mode ((w*1000000+m) / 1000000) ((w*1000000+m) % 1000000) 1000000
theorem cW{mode q r e:Int}(he:e % 2=0) (h:(0<=q+e)↔(0<=q)):EG mode (q+e) r 1000000=EG mode q r 1000000+e:=by
 have:qS mode (q+e) r 1000000↔qS mode q r 1000000:=by unfold qS;omega
 grind[EG]
theorem AB{w m mode:Int}(hm:0<=mode/\mode<=5) (hw:-2000000000000000000<=w/\w<=2000000000000000000) (hr:-1000000000000<=m/\m<=1000000000000) :
 Mm w m mode=some (if 1000000000000000<rsS w m mode\/rsS w m mode < -1000000000000000 then(0,3)else(rsS w m mode,0)):=by
 have a:=Int.mul_tdiv_add_tmod m 1000000;have hm1:=Int.tmod_lt_of_pos m (show(0:Int)<1000000 by omega);have hm2:-1000000<Bab m 1000000:=by
  grind
 unfold Mm;rw[wid (n:=cab m 1000000) (by omega) (by omega),wid (n:=w+cab m 1000000) (by omega) (by omega)];have f:w*1000000+m=(w+cab m 1000000)*1000000+Bab m 1000000:=by omega
 unfold rsS;rw[f];have hW:-3000000000000000000<=w+cab m 1000000/\w+cab m 1000000<=3000000000000000000:=by omega
 generalize w+cab m 1000000=W at *;generalize Bab m 1000000=M at *;clear a f;have b:=mN mode ((W*1000000+M) / 1000000) ((W*1000000+M) % 1000000) 1000000;by_cases hb:W < -2000000000000000\/2000000000000000<W
 .grind
 .rw[if_pos (by omega),naa,if_neg (by simp_all)];have d:Bab W 2=if 0<=W then W % 2 else -(-W % 2):=by
   grind
  obtain⟨P,hP,hPe⟩:∃P,(if 1<W then some (ca .i64 ((Bab W 2)+2))else if W<(-1)then some (ca .i64 ((Bab W 2)-2))else some (Bab W 2))=some P/\((1<W/\P=W % 2+2)\/(W < -1/\P = -(-W % 2)-2)\/(-1<=W/\W<=1/\P=W)):=by
   rw[d];by_cases e:1<W
   .rw[if_pos e,if_pos (by omega),wid (by omega) (by omega)];simp_all
   .rw[if_neg e];by_cases h2:W < -1
    .rw[if_pos h2,if_neg (by omega),wid (by omega) (by omega)];simp_all
    .rw[if_neg h2];grind
  rw[hP,naa];have hPb:-4<=P/\P<=4:=by omega
  rw[wid (n:=P*1000000) (by omega) (by omega),wid (n:=P*1000000+M) (by omega) (by omega),Oj];unfold qO;rw[if_neg (waa.2 hm),if_neg (by decide),if_neg (by omega)];obtain⟨Z,i⟩:∃Z,P*1000000+M=Z:=⟨_,rfl⟩;rw[i];have j:SC (!(decide (Z<0)==decide ((1000000:Int)<0))) (vr (!(decide (Z<0)==decide ((1000000:Int)<0))) mode (Z.natAbs / 1000000) (Z.natAbs % 1000000) 1000000)=EG mode (Z / 1000000) (Z % 1000000) 1000000:=Wy Z 1000000 mode (by decide) (!(decide (Z<0)==decide ((1000000:Int)<0))) (.inr (by simp)) hm;simp only[naa];rw[show(1000000:Int).natAbs=1000000 from rfl,j,if_neg (by simp)];have c:EG mode ((W*1000000+M) / 1000000) ((W*1000000+M) % 1000000) 1000000=EG mode (Z / 1000000) (Z % 1000000) 1000000+(W-P):=by
   have g:(W*1000000+M) / 1000000=Z / 1000000+(W-P):=by omega
   have h:(W*1000000+M) % 1000000=Z % 1000000:=by omega
   rw[g,h];exact cW (by omega) (by omega)
  have hrd2:=mN mode (Z / 1000000) (Z % 1000000) 1000000;rw[c]at b⊢;generalize EG mode (Z / 1000000) (Z % 1000000) 1000000=R at *;rw[wid (n:=W-P) (by omega) (by omega),wid (n:=W-P+R) (by omega) (by omega),Int.add_comm (W-P) R]
  grind
structure RowsN (t:GTable):Prop where
 len:t.Rows.length<=150
 n:∀r∈t.Rows,-1000000000<=r.N/\r.N<=1000000000
theorem ML{t:GTable}(ht:t.Value.Kind=4->RowsN t) (date c mode:Int):∃p,Km t date c mode=some p/\(p.2=0->-1000000000000000<=p.1/\p.1<=1000000000000000):=by
 unfold Km;rw[modeO];by_cases hm:¬(0<=mode/\mode<=5)
 .simp_all
 have hm:=Aac.1 hm;rw[decide_eq_false (p:=¬(0<=mode/\mode<=5)) (λh=>h hm),if_neg (show¬(false=true)from λh=>nomatch h)];have f:∀{α:Type} (k:Bool->Option α),(oaa (α:=Bool) (if t.Key.Kind=3/\t.Key.Enum=0 then some (!((t.Value.Kind==4)&&(t.Value.Enum==0)))else some true) k)=k (!decide ((t.Key.Kind=3/\t.Key.Enum=0)/\(t.Value.Kind=4/\t.Value.Enum=0))):=by
  grind
 rw[f];by_cases hk:¬((t.Key.Kind=3/\t.Key.Enum=0)/\(t.Value.Kind=4/\t.Value.Enum=0))
 .rw[decide_eq_false hk,if_pos (show(!false)=true from rfl)];simp
 have hk:=Aac.1 hk;rw[decide_eq_true hk,if_neg (show¬((!true)=true)from λh=>nomatch h)];have ht:=ht hk.2.1;by_cases hc:1000000000000000<c\/c < -1000000000000000
 .have h2:(if¬c < -1000000000000000 then some (decide (1000000000000000<c))else some true)=some true:=by
   grind
  simp_all
 .rw[if_pos (by omega),naa,if_neg (by simp_all)];have e:=dV (s1:=Ti t date c) (s2:=Ti t date c) (λx y=>x=y/\∃i:Nat,x.2.2=(i:Int)/\i<=t.Rows.length/\-(1000000000000000*(i:Int))<=x.1/\x.1<=1000000000000000*(i:Int)/\-(1000000*(i:Int))<=x.2.1/\x.2.1<=1000000*(i:Int)) (λx=>(t.Rows.length-x.2.2).toNat) (λx y=>x=y/\-150000000000000000<=x.1/\x.1<=150000000000000000/\-150000000<=x.2/\x.2<=150000000) (λx y=>x=(0,3)/\y=(0,3)) (by
   rintro⟨a,b,j⟩ y ⟨rfl,i,g,o,q,s,u,z⟩;dsimp only at g o q s u z;subst g;have hl:=ht.len;unfold Ti;dsimp only;by_cases hi:i<t.Rows.length
   .have hN:=ht.n _ (xaa hi);rw[if_pos (by omega),Pa hi];simp only[naa,vi];generalize t.Rows[i]=r at hN⊢;by_cases l:OB r.Valid date=true/\¬(min r.Hi c<=max r.Lo 0)
    .rw[if_pos l.1];have q1:decide (min r.Hi c<=max r.Lo 0)=false:=by simp_all
     rw[q1];simp only[naa,Eaa,if_false];rw[wid (by omega) (by omega)];obtain⟨len,d⟩:=Cab (show 0<=min r.Hi c-max r.Lo 0 by omega);rw[d,fx (by omega) hN];have hb:=gM (neg:=decide (r.N<0)) (len:=len) (n:=r.N.natAbs);generalize fM (decide (r.N<0)) (GJ len r.N.natAbs)=v at hb⊢;obtain⟨A,B,C⟩:=v;simp only[naa]at hb⊢;cases C
     .simp
     .left;rw[wid (n:=a+A) (by omega) (by omega),wid (n:=b+B) (by omega) (by omega),Ha (by omega)];refine⟨_,_,rfl,rfl,⟨rfl,i+1,rfl,by omega,?_⟩,?_⟩
      all_goals grind
    .have q1:(if OB r.Valid date=true then some (decide (min r.Hi c<=max r.Lo 0))else some true)=some true:=by
      simp_all
     have q2:(if¬(min r.Hi c<=max r.Lo 0)then some (!OB r.Valid date)else some true)=some true:=by
      grind
     rw[q1];simp only[naa,if_true];left;rw[Ha (by omega)];refine⟨_,_,rfl,rfl,⟨rfl,i+1,rfl,by omega,?_⟩,?_⟩
     all_goals grind
   grind) t.Rows.length (0,0,0) (0,0,0) (by simp) ⟨rfl,0,rfl,by omega,by simp⟩
  rcases e with⟨x,y,g1,g2,rfl,g3⟩|⟨x,y,g1,g2,rfl,rfl⟩
  .rw[g1];obtain⟨w,m⟩:=x;dsimp only at g3;simp only[naa];rw[AB hm (by omega) (by omega)];simp only[naa];by_cases h:1000000000000000<rsS w m mode\/rsS w m mode < -1000000000000000
   .simp_all
   grind
  simp_all
def Kc(v:GValue):Prop:=
 (v.Kind=1/\v.Enum=0/\0<=v.N/\v.N<=1)\/(v.Kind=2/\v.Enum=0/\-1000000000000<=v.N/\v.N<=1000000000000)\/(v.Kind=3/\v.Enum=0/\-1000000000000000<=v.N/\v.N<=1000000000000000)\/
 (v.Kind=4/\v.Enum=0/\-1000000000<=v.N/\v.N<=1000000000)\/(v.Kind=5/\v.Enum=0/\0<=v.N/\v.N<=109572)\/(v.Kind=6/\0<=v.Enum/\v.Enum<8/\0<=v.N/\v.N<16)
instance (v:GValue):Decidable (Kc v):=by unfold Kc;infer_instance
def jz(v:GValue):Bool:=decide (Kc v)
theorem HO{a b:Prop} [Decidable a] [Decidable b]:(oaa (α:=Bool) (if a then some (decide b)else some false) λj=>some j)=some (decide (a/\b)):=by
 grind
theorem iteE{a:Prop} [Decidable a] {b:Bool}:(if¬a then some b else some false)=some (!decide a&&b):=by
 grind
theorem Xc(v:GValue):Xb v=some (jz v):=by
 obtain⟨K,E,N⟩:=v;unfold Xb jz Kc;simp only[HO,iteE,naa]
 grind[decide]
theorem Kc.range{v:GValue}(h:Kc v):-1000000000000000<=v.N/\v.N<=1000000000000000/\1<=v.Kind/\v.Kind<=6:=by unfold Kc at h;omega
def wfS(n:GNode):Bool:=
 decide (n.N=0\/ij n.Op=true)&&decide ((14<=n.Op/\n.Op<=16->0<=n.N/\n.N<=5)/\(n.Op=34->0<=n.N/\n.N % 8<=5)/\(n.Op=6->0<=n.N))
theorem sw_s{n:GNode}:(oaa (α:=Bool) (if n.Op=14 then some true else if n.Op=15 then some true else some (n.Op==16)) λh=>
 if h=true then oaa (α:=Bool) (if 0<=n.N then some (decide (n.N<=5))else some false) λe=>some e
 else if n.Op=34 then oaa (α:=Bool) (if 0<=n.N then some (decide ((Bab n.N 8)<=5))else some false) λf=>some f
 else if n.Op=6 then some (decide (0<=n.N))else some true)=some (decide ((14<=n.Op/\n.Op<=16->0<=n.N/\n.N<=5)/\(n.Op=34->0<=n.N/\n.N % 8<=5)/\(n.Op=6->0<=n.N))):=by
 obtain⟨op,N⟩:=n;dsimp only;simp only[HO];by_cases b:op=14
 .simp_all
 by_cases c:op=15
 .simp_all
 by_cases d:op=16
 .simp_all
 by_cases a:op=34
 .subst a;simp
  grind
 by_cases g:op=6
 .simp_all
 simp[b,c,d,a,g];omega
theorem QP{op:Int}(h:1<=op/\op<=39):0<=He op:=by
 grind[He]
theorem dH(n:GNode):Uk n=some (decide (1<=n.Op/\n.Op<=39)&&wfS n):=by
 unfold Uk;rw[mn,naa,sw_s];by_cases h:1<=n.Op/\n.Op<=39
 .have:=QP h;rw[if_pos (by omega),nc h,decide_eq_true h,xac];unfold wfS;by_cases hN:n.N=0
  .grind
  .cases hu:ij n.Op<;>simp[hN]
 grind[MA]
def Jz(n:GNode) (env:GEnv):Bool:=
 if n.Op=7 then decide (0<=n.N/\n.N<(env.Inputs.length:Int))else
 if n.Op=8 then decide (0<=n.N/\n.N<(env.Defs.length:Int))&&!(((env.Defs[n.N.toNat]?).map (·.Kind)).getD 0==0)else
 if n.Op=33 then decide (0<=n.N/\n.N<(env.Tables.length:Int))else
 if n.Op=34 then decide (ca .i64 (cab n.N 8)<(env.Tables.length:Int))else
 if 36<=n.Op/\n.Op<=39 then decide (0<=n.N/\n.N<(env.MemberTypes.length:Int))else true
theorem OZ{op:Int}{α:Type}{k:Bool->Option α}:(oaa (α:=Bool) (if op=36 then some true else if op=37 then some true else if op=38 then some true else some (op==39)) k)=k (decide (36<=op/\op<=39)):=by
 by_cases a:op=36
 .simp_all
 by_cases h2:op=37
 .simp_all
 by_cases b:op=38
 .simp_all
 by_cases h4:op=39
 .simp_all
 rw[if_neg a,if_neg h2,if_neg b,naa]
 grind[decide_eq_false_iff_not]
theorem uy(n:GNode) (env:GEnv):Jq n env=some (Jz n env):=by
 unfold Jq Jz;simp only[OZ,HO];split
 .rfl
 split
 .by_cases a:0<=n.N
  .by_cases b:n.N<(env.Defs.length:Int)
   .rw[if_pos a,if_pos b,pn a b,qaa (by omega)];grind
   grind
  grind
 grind
structure EnvOk (env:GEnv):Prop where
 tabs:∀t∈env.Tables,t.Rows.length<=150/\(t.Value.Kind=4->RowsN t)
 mem:env.Members.length<=1048576
noncomputable def Ug(n:GNode) (args:List GValue) (env:GEnv):Option (GValue×Int):=
 (qa n args env).bind λa=>if a=false then some (⟨0,0,0⟩,8)else
 (Ea n args env).bind λx=>if¬x.2=0 then some (⟨0,0,0⟩,x.2)else
 if jz x.1=false then some (⟨0,0,0⟩,3)else some (x.1,0)
def Both(e r:Option (GValue×Int)):Prop:=∃p,e=some p/\r=some p/\(p.2=0->Kc p.1)
theorem PG{x:Option (GValue×Int)}:(x.bind λy=>some (y.1,y.2))=x:=by cases x<;>rfl
def xK(v:GValue):GValue×Int:=if jz v=true then(v,0)else(⟨0,0,0⟩,3)
theorem LZ(v:GValue):(xK v).2=0->Kc (xK v).1:=by
 grind[xK,jz]
theorem ET{n:GNode}{args:List GValue}{env:GEnv}(h:qa n args env=some true) {v:GValue}{e:Int}(hc:Ea n args env=some (v,e)):Ug n args env=some (if e=0 then xK v else(⟨0,0,0⟩,e)):=by
 grind[Ug,xK]
theorem DT{n:GNode}{args:List GValue}{env:GEnv}(h:qa n args env=some false):Ug n args env=some (⟨0,0,0⟩,8):=by
 grind[Ug]
theorem ai(k:Int):Wg k=some (decide (2<=k/\k<=4)):=by
 unfold Wg;by_cases h2:k=2
 .simp_all
 by_cases a:k=3
 .simp_all
 rw[if_pos h2,if_pos a,naa]
 grind[decide_eq_false]
theorem ln(b:Bool):xg b=some ⟨1,0,if b=true then 1 else 0⟩:=by cases b<;>rfl
theorem Aw(v:GValue) (t:GType):kn v t=some (jz v&&(decide (v.Kind=t.Kind)&&decide (v.Enum=t.Enum))):=by
 grind[kn,Xc]
def Ys(e:Option (GValue×Int)):Prop:=∃p,e=some p/\(p.2=0->Kc p.1)
theorem dj{n:GNode}{args:List GValue}{env:GEnv}(h:qa n args env=some true) {v:GValue}{e:Int}(hc:Ea n args env=some (v,e)):Ys (Ug n args env):=by
 rw[ET h hc];by_cases a:e=0
 .rw[if_pos a];exact⟨_,rfl,LZ v⟩
 .rw[if_neg a];exact⟨_,rfl,λh2=>absurd h2 a⟩
theorem Dr{n:GNode}{args:List GValue}{env:GEnv}(h:qa n args env=some false):Ys (Ug n args env):=by
 rw[DT h];exact⟨_,rfl,λh2=>absurd h2 (by decide)⟩
theorem V3{N:Int}{env:GEnv}:Ys (Ug ⟨6,N⟩ [] env):=by
 exact dj (v:=⟨6,ca .i64 (cab N 16),Bab N 16⟩) (e:=0) (by simp[qa]) (by simp[Ea])
theorem X3{N:Int}{env:GEnv}(hf:Jz ⟨7,N⟩ env=true):Ys (Ug ⟨7,N⟩ [] env):=by
 simp only[Jz,if_true,decide_eq_true_eq]at hf;have hi:idx env.Inputs N=some (env.Inputs[N.toNat]'(by omega)):=pn hf.1 hf.2;generalize env.Inputs[N.toNat]'(by omega)=v at hi;by_cases hv:jz v=true
 .exact dj (v:=v) (e:=0) (by grind[qa,Xc]) (by grind[Ea])
 grind[qa,Dr,Xc]
theorem Y3{N:Int}{env:GEnv}(hf:Jz ⟨8,N⟩ env=true):Ys (Ug ⟨8,N⟩ [] env):=by
 simp only[Jz,vaa,if_false,if_true,Bool.and_eq_true,decide_eq_true_eq]at hf;have hi:idx env.Defs N=some (env.Defs[N.toNat]'(by omega)):=pn hf.1.1 hf.1.2;generalize env.Defs[N.toNat]'(by omega)=v at hi;by_cases hv:jz v=true
 .exact dj (v:=v) (e:=0) (by grind[qa,Xc]) (by grind[Ea])
 grind[qa,Dr,Xc]
theorem Z3{N:Int}{env:GEnv}:Ys (Ug ⟨9,N⟩ [] env):=
 dj (v:=⟨5,0,env.Date⟩) (e:=0) (by simp[qa]) (by simp[Ea])
theorem dX{N:Int}{env:GEnv}:Ys (Ug ⟨35,N⟩ [] env):=
 dj (v:=⟨2,0,(env.Members.length:Int)⟩) (e:=0) (by simp[qa]) (by simp[Ea])
theorem VW{N:Int}{a:GValue}{env:GEnv}(ha:Kc a):Ys (Ug ⟨10,N⟩ [a] env):=by
 have hr:=ha.range;by_cases hn:2<=a.Kind/\a.Kind<=4
 .exact dj (v:=⟨a.Kind,0,-a.N⟩) (e:=0) (by grind[qa,Yb,Dl,ai]) (by grind[Ea,bo,Dl,wid])
 .have hd:decide (2<=a.Kind/\a.Kind<=4)=false:=decide_eq_false hn;exact Dr (by simp only[qa,vaa,if_false,naa,Baa,Eaa,Dl,Yb,ai,hd,uaa,Faa,if_true,Fab,zae])
theorem WW{N:Int}{a:GValue}{env:GEnv}(ha:Kc a):Ys (Ug ⟨25,N⟩ [a] env):=by
 by_cases hn:a.Kind=1
 .exact dj (v:=⟨1,0,if(a.N==0)=true then 1 else 0⟩) (e:=0) (by grind[qa,Yb,Dl]) (by simp only[Ea,vaa,if_false,naa,Baa,Eaa,Dl,bo,ln,uaa,Faa,if_true,Fab,zae])
 grind[qa,Yb,Dr,Dl]
theorem IF{op N:Int}{a:GValue}{env:GEnv}(b:op=31\/op=32) (ha:Kc a):Ys (Ug ⟨op,N⟩ [a] env):=by
 by_cases hn:a.Kind=5
 .have c:0<=a.N/\a.N<=109572:=by unfold Kc at ha;omega
  obtain⟨y,m,d,f⟩:∃y m d,qk a.N=some (y,m,d):=by
   obtain⟨n,m,k,f⟩:=jJ c.1 c.2;exact⟨_,_,_,Lr f⟩
  rcases b with rfl|rfl
  .exact dj (v:=⟨2,0,y⟩) (e:=0) (by grind[qa,Yb,Dl]) (by grind[Ea,bo,Dl])
  .exact dj (v:=⟨2,0,m⟩) (e:=0) (by grind[qa,Yb,Dl]) (by grind[Ea,bo,Dl])
 .rcases b with rfl|rfl
  all_goals grind[qa,Yb,Dr,Dl]
theorem aX{N:Int}{a:GValue}{env:GEnv}(he:EnvOk env) (hf:Jz ⟨33,N⟩ env=true) (ha:Kc a):Ys (Ug ⟨33,N⟩ [a] env):=by
 simp only[Jz,vaa,if_false,if_true,decide_eq_true_eq]at hf;have hm:env.Tables[N.toNat]'(by omega)∈env.Tables:=xaa _;have hi:idx env.Tables N=some (env.Tables[N.toNat]'(by omega)):=pn hf.1 hf.2;generalize env.Tables[N.toNat]'(by omega)=t at hi hm;have ht:=he.tabs t hm;have d:jz a=true:=decide_eq_true ha;have b:qa ⟨33,N⟩ [a] env=some (decide (a.Kind=t.Key.Kind/\a.Enum=t.Key.Enum/\1<=t.Value.Kind/\t.Value.Kind<=6)):=by
  simp only[qa,vaa,if_false,if_true,hi,Dl,naa,Aw,d,xac]
  grind
 by_cases hc:a.Kind=t.Key.Kind/\a.Enum=t.Key.Enum/\1<=t.Value.Kind/\t.Value.Kind<=6
 .rw[decide_eq_true hc]at b;have c:Ea ⟨33,N⟩ [a] env=if(cC t env.Date a.N).2=false then some (⟨0,0,0⟩,6)else(idx t.Rows (cC t env.Date a.N).1).bind λe=>some (⟨t.Value.Kind,t.Value.Enum,e.N⟩,0):=by
   grind[Ea,Dl,HF]
  by_cases hl:(cC t env.Date a.N).2=true
  .grind[aV,Pa,dj]
  .rw[Bool.eq_false_iff.2 hl]at c
   grind[dj]
 grind[Dr]
theorem cX{N:Int}{a:GValue}{env:GEnv}(he:EnvOk env) (hN:Bd ⟨34,N⟩) (hw:wfS ⟨34,N⟩=true) (hf:Jz ⟨34,N⟩ env=true) (ha:Kc a):Ys (Ug ⟨34,N⟩ [a] env):=by
 simp only[Jz,vaa,if_false,if_true,decide_eq_true_eq]at hf;have f:0<=N/\N % 8<=5:=by
  simp_all[wfS]
 obtain⟨c,d⟩:=hN;dsimp only at c d;have hq:ca .i64 (cab N 8)=N / 8:=by grind[wid]
 have hr:Bab N 8=N % 8:=kX f.1;rw[hq]at hf;have hm:env.Tables[(N / 8).toNat]'(by omega)∈env.Tables:=xaa _;have hi:idx env.Tables (N / 8)=some (env.Tables[(N / 8).toNat]'(by omega)):=pn (by omega) hf;generalize env.Tables[(N / 8).toNat]'(by omega)=t at hi hm;have ht:=he.tabs t hm;obtain⟨p,b1,b3⟩:=ML ht.2 env.Date a.N (N % 8);have b:qa ⟨34,N⟩ [a] env=some (decide (a.Kind=3/\t.Key.Kind=3/\t.Key.Enum=0/\t.Value.Kind=4/\t.Value.Enum=0)):=by
  simp only[qa,vaa,if_false,if_true,hq,hi,Dl,naa]
  grind
 by_cases hc:a.Kind=3/\t.Key.Kind=3/\t.Key.Enum=0/\t.Value.Kind=4/\t.Value.Enum=0
 .rw[decide_eq_true hc]at b;exact dj (v:=⟨3,0,p.1⟩) (e:=p.2) b (by grind[Ea,Dl])
 grind[Dr]
theorem XW{N:Int}{a b c:GValue}{env:GEnv}(ha:Kc a) (hb:Kc b) (hc:Kc c):Ys (Ug ⟨26,N⟩ [a,b,c] env):=by
 by_cases h:a.Kind=1/\b.Kind=c.Kind/\b.Enum=c.Enum
 .have d:qa ⟨26,N⟩ [a,b,c] env=some true:=by
   grind[qa,Ge,Dl,PM,sZ]
  by_cases hN:a.N=1
  .exact dj (v:=b) (e:=0) d (by grind[Ea,Dl,PM])
  .exact dj (v:=c) (e:=0) d (by grind[Ea,Dl,sZ])
 grind[qa,Ge,Dl,PM,sZ,Dr]
theorem Ru{op N:Int}{env:GEnv}(h:1<=op/\op<=5):Ys (Ug ⟨op,N⟩ [] env):=by
 refine dj (v:=⟨op,0,N⟩) (e:=0) ?_ ?_
 .have:op=1\/op=2\/op=3\/op=4\/op=5:=by omega
  rcases this with rfl|rfl|rfl|rfl|rfl<;>simp[qa]
 .have:op=1\/op=2\/op=3\/op=4\/op=5:=by omega
  rcases this with rfl|rfl|rfl|rfl|rfl<;>simp[Ea]
theorem SH{op N:Int}{a b:GValue}{env:GEnv}(h:(11<=op/\op<=24)\/(27<=op/\op<=30)):qa ⟨op,N⟩ [a,b] env=Ra op a b:=by
 unfold qa;dsimp only;rw[if_neg (by omega),if_neg (by omega),if_neg (by omega),if_neg (by omega),OZ,decide_eq_false (by omega),if_neg (by simp),if_neg (by simp),if_pos (by simp),Dl,PM,naa,naa];simp
theorem QA{op N:Int}{a b:GValue}{env:GEnv}(h:(11<=op/\op<=24)\/(27<=op/\op<=30)):Ea ⟨op,N⟩ [a,b] env=cc ⟨op,N⟩ a b:=by
 unfold Ea;dsimp only;have c:(op==5)=false:=by grind
 rw[if_neg (by omega),if_neg (by omega),if_neg (by omega),if_neg (by omega),c,naa,if_neg (by simp),if_neg (by omega),if_neg (by omega),if_neg (by omega),if_neg (by omega),if_neg (by omega),OZ,decide_eq_false (by omega),if_neg (by simp),if_neg (by omega),if_neg (by omega),if_neg (by simp),if_pos (by simp),Dl,PM,naa,naa,PG]
def EX(a b:GValue):Prop:=a.Kind=b.Kind/\a.Enum=b.Enum
instance (a b:GValue):Decidable (EX a b):=by unfold EX;infer_instance
theorem Tn(a b:GValue):Ge a b=some (decide (EX a b)):=by
 unfold Ge EX;by_cases c:a.Kind=b.Kind<;>by_cases h2:a.Enum=b.Enum<;>simp[c,h2]
theorem iI{a b:Prop} [Decidable a] [Decidable b]:(if decide a=true then some (decide b)else some false)=some (decide (a/\b)):=by
 grind
theorem smEq{a b:GValue}(h:EX a b) (hn:a.N=b.N):a=b:=by
 obtain⟨k,e,n⟩:=a;obtain⟨k',e',n'⟩:=b;obtain⟨h1,h2⟩:=h
 simp_all
theorem plK1{a:GValue}(h:Kc a) (hk:a.Kind=1):a.Enum=0/\(a.N=0\/a.N=1):=by unfold Kc at h;omega
theorem plK5{a:GValue}(h:Kc a) (hk:a.Kind=5):0<=a.N/\a.N<=109572:=by unfold Kc at h;omega
theorem Ys.ite{c:Prop} [Decidable c] {n:GNode}{args:List GValue}{env:GEnv}{v:GValue}{e:Int}(hal:qa n args env=some (decide c)) (hco:c->Ea n args env=some (v,e)):Ys (Ug n args env):=by
 by_cases h:c
 all_goals grind[dj,Dr]
theorem qL{op N:Int}{a b:GValue}{env:GEnv}(d:op=11\/op=12) (ha:Kc a) (hb:Kc b):Ys (Ug ⟨op,N⟩ [a,b] env):=by
 have h1:=ha.range;have h2:=hb.range;have c:qa ⟨op,N⟩ [a,b] env=some (decide (EX a b/\2<=a.Kind/\a.Kind<=4)):=by
  rw[SH (by omega)];rcases d with rfl|rfl<;>simp only[Ra,vaa,if_true,if_false,naa,Tn,ai,iI,Baa]
 rcases d with rfl|rfl
 .refine Ys.ite (v:=⟨a.Kind,0,a.N+b.N⟩) (e:=0) c (λ_=>?_);rw[QA (by omega)];simp only[cc,if_true,naa,wid (n:=a.N+b.N) (by omega) (by omega)]
 .refine Ys.ite (v:=⟨a.Kind,0,a.N-b.N⟩) (e:=0) c (λ_=>?_);rw[QA (by omega)];simp only[cc,vaa,Baa,if_true,if_false,Eaa,naa,wid (n:=a.N-b.N) (by omega) (by omega)]
theorem rL{op N:Int}{a b:GValue}{env:GEnv}(c:op=17\/op=18) (ha:Kc a) (hb:Kc b):Ys (Ug ⟨op,N⟩ [a,b] env):=by
 have h1:=ha.range;have hk:(2<=a.Kind/\a.Kind<=5)↔((2<=a.Kind/\a.Kind<=4)\/a.Kind=5):=by omega
 have hal:qa ⟨op,N⟩ [a,b] env=some (decide (EX a b/\2<=a.Kind/\a.Kind<=5)):=by
  rw[SH (by omega)];rcases c with rfl|rfl<;>simp only[Ra,vaa,if_true,if_false,naa,Tn,ai,iI,Baa,Eaa,hk]
  all_goals grind
 have hco:EX a b/\2<=a.Kind/\a.Kind<=5->Ea ⟨op,N⟩ [a,b] env=some ((if(op==17)=decide (a.N<b.N)then a else b),0):=by
  intro hc;rw[QA (by omega)];have he:=λh=>smEq hc.1 h;rcases c with rfl|rfl<;>simp only[cc,Int.reduceLE,vaa,Baa,if_true,if_false,naa,Eaa]
  all_goals grind
 grind[Ys.ite]
theorem tL{op N:Int}{a b:GValue}{env:GEnv}(d:op=19\/op=20):Ys (Ug ⟨op,N⟩ [a,b] env):=by
 have c:qa ⟨op,N⟩ [a,b] env=some (decide (EX a b)):=by
  rw[SH (by omega)];rcases d with rfl|rfl<;>simp only[Ra,vaa,if_true,if_false,naa,Tn,Baa,Eaa]
 rcases d with rfl|rfl
 .refine Ys.ite (v:=⟨1,0,if(a.N==b.N)=true then 1 else 0⟩) (e:=0) c (λ_=>?_)
  simp_all[cc,QA,ln]
 .refine Ys.ite (v:=⟨1,0,if(a.N !=b.N)=true then 1 else 0⟩) (e:=0) c (λ_=>?_)
  simp_all[cc,QA,ln]
theorem uL{op N:Int}{a b:GValue}{env:GEnv}(d:op=21\/op=22):Ys (Ug ⟨op,N⟩ [a,b] env):=by
 have hk:(2<=a.Kind/\a.Kind<=5)↔((2<=a.Kind/\a.Kind<=4)\/a.Kind=5):=by omega
 have c:qa ⟨op,N⟩ [a,b] env=some (decide (EX a b/\2<=a.Kind/\a.Kind<=5)):=by
  rw[SH (by omega)];rcases d with rfl|rfl<;>simp only[Ra,vaa,if_true,if_false,naa,Tn,ai,iI,Baa,Eaa,hk]
  all_goals grind
 rcases d with rfl|rfl
 .refine Ys.ite (v:=⟨1,0,if decide (a.N<b.N)=true then 1 else 0⟩) (e:=0) c (λ_=>?_)
  simp_all[cc,QA,ln]
 .refine Ys.ite (v:=⟨1,0,if decide (a.N<=b.N)=true then 1 else 0⟩) (e:=0) c (λ_=>?_)
  simp_all[cc,QA,ln]
theorem vL{op N:Int}{a b:GValue}{env:GEnv}(c:op=23\/op=24) (ha:Kc a) (hb:Kc b):Ys (Ug ⟨op,N⟩ [a,b] env):=by
 have d:qa ⟨op,N⟩ [a,b] env=some (decide (a.Kind=1/\b.Kind=1)):=by
  rw[SH (by omega)];rcases c with rfl|rfl<;>simp only[Ra,vaa,if_true,if_false,naa,Baa,Eaa]
  all_goals grind
 refine Ys.ite (v:=⟨1,0,if(if op=23 then decide (a.N=1/\b.N=1)else decide (a.N=1\/b.N=1))=true then 1 else 0⟩) (e:=0) d λhc=>?_;have n1:=(plK1 ha hc.1).2;have n2:=(plK1 hb hc.2).2;rw[QA (by omega)];rcases c with rfl|rfl<;>simp only[cc,vaa,Baa,if_true,if_false,Eaa,naa,ln]
 all_goals grind
theorem YW{N:Int}{a b:GValue}{env:GEnv}(ha:Kc a) (hb:Kc b):Ys (Ug ⟨27,N⟩ [a,b] env):=by
 have h1:=ha.range;have h2:=hb.range;have c:qa ⟨27,N⟩ [a,b] env=some (decide (a.Kind=5/\b.Kind=2)):=by
  rw[SH (by omega)]
  grind[Ra]
 refine Ys.ite (v:=⟨5,0,a.N+b.N⟩) (e:=0) c (λhc=>?_);rw[QA (by omega)];simp only[cc,vaa,Baa,if_true,if_false,Eaa,naa,wid (n:=a.N+b.N) (by omega) (by omega),hc.1]
theorem am_p(a:Int) (j:Int) (ha:0<=a/\a<=109572):∃p,Xf a j=some p:=by
 by_cases hj:-3600<=j/\j<=3600
 .obtain⟨n,m,k,b⟩:=jJ ha.1 ha.2;exact⟨_,ru b hj⟩
 simp_all[Xf,cn]
theorem ZW{N:Int}{a b:GValue}{env:GEnv}(ha:Kc a):Ys (Ug ⟨28,N⟩ [a,b] env):=by
 have c:qa ⟨28,N⟩ [a,b] env=some (decide (a.Kind=5/\b.Kind=2)):=by
  rw[SH (by omega)]
  grind[Ra]
 by_cases hc:a.Kind=5/\b.Kind=2
 .obtain⟨p,p1⟩:=am_p a.N b.N (plK5 ha hc.1);rw[decide_eq_true hc]at c;refine dj (v:=⟨5,0,p.1⟩) (e:=p.2) c ?_
  simp_all[cc,QA]
 grind[Dr]
theorem wL{op N:Int}{a b:GValue}{env:GEnv}(d:op=29\/op=30) (ha:Kc a) (hb:Kc b):Ys (Ug ⟨op,N⟩ [a,b] env):=by
 have h1:=ha.range;have h2:=hb.range;have c:qa ⟨op,N⟩ [a,b] env=some (decide (a.Kind=5/\b.Kind=5)):=by
  rw[SH (by omega)];rcases d with rfl|rfl<;>simp only[Ra,vaa,if_true,if_false,naa,Baa,Eaa]
  all_goals grind
 obtain⟨y,y1,-⟩:=o5 a.N b.N;rcases d with rfl|rfl
 .refine Ys.ite (v:=⟨2,0,b.N-a.N⟩) (e:=0) c (λhc=>?_);rw[QA (by omega)];simp only[cc,vaa,Baa,if_true,if_false,Eaa,naa,wid (n:=b.N-a.N) (by omega) (by omega)]
 .refine Ys.ite (v:=⟨2,0,y⟩) (e:=0) c (λhc=>?_)
  simp_all[cc,QA]
structure SkInv (i:Nat) (st sk:List Int):Prop where
 len:st.length=i
 pos:0<i->sk≠[]
 zero:i=0->sk=[]
 last:∀k,k+1=sk.length->st[i-1]?=sk[k]?
 chain:∀j,j+1<sk.length->∃a b:Nat,sk[j]?=some (a:Int)/\sk[j+1]?=some (b:Int)/\a<b/\st[b-1]?=some (a:Int)
 bound:∀j,j<sk.length->∃a:Nat,sk[j]?=some (a:Int)/\a<i
theorem GN{e:List GNode}(h:Wst e):∀i,i<=e.length->SkInv i (Wj e i).1 (Wj e i).2
 |0,_=>by
  refine⟨rfl,by omega,λ_=>rfl,?_,?_,?_⟩
  all_goals grind[Wj]
 |i+1,hi=>by
  have d:=GN h i (by omega);obtain⟨a1,p,a3⟩:=h.ar (i:=i) (by omega);have o:Wj e (i+1)=((Wj e i).1++[if 0<Tl e i then((Wj e i).2[(Wj e i).2.length-Tl e i]?).getD 0 else(i:Int)],(Wj e i).2.take ((Wj e i).2.length-Tl e i)++[if 0<Tl e i then((Wj e i).2[(Wj e i).2.length-Tl e i]?).getD 0 else(i:Int)]):=rfl;rw[o];generalize (Wj e i).1=st at d⊢;generalize (Wj e i).2=sk at d p⊢;generalize Tl e i=a at p⊢;obtain⟨f,hf,hfi,m⟩:∃f:Nat,(if 0<a then(sk[sk.length-a]?).getD 0 else(i:Int))=(f:Int)/\f<=i/\(∀j,j+1=sk.length-a->∃b:Nat,sk[j]?=some (b:Int)/\b<f/\st[f-1]?=some (b:Int)):=by
   by_cases ha:0<a
   .obtain⟨f,h1,h2⟩:=d.bound (sk.length-a) (by omega);refine⟨f,by simp_all,by omega,λj hj=>?_⟩;obtain⟨x,y,l,g,k3,k4⟩:=d.chain j (by omega)
    grind
   .refine⟨i,by omega,by omega,λj hj=>?_⟩;obtain⟨x,l,g⟩:=d.bound j (by omega);refine⟨x,l,g,?_⟩;rw[←l];exact d.last j (by omega)
  rw[hf];have c:(sk.take (sk.length-a)).length=sk.length-a:=by simp
  refine⟨by simp[d.len],λ_=>by simp,λh=>by omega,?_,?_,?_⟩
  .intro k hk;simp only[Taa,c,Eab]at hk;rw[nae,wab (by rw[d.len];omega),d.len,yac,wab (by omega),c,show k-(sk.length-a)=0 by omega]
  .intro j hj;simp only[Taa,c,Eab]at hj;by_cases n:j+1<sk.length-a
   .obtain⟨x,y,l,g,k3,k4⟩:=d.chain j (by omega);obtain⟨y',q1,q2⟩:=d.bound (j+1) (by omega);rw[g]at q1;injection q1 with q1;refine⟨x,y,?_,?_,k3,?_⟩
    all_goals grind
   .obtain⟨x,l,g,k3⟩:=m j (by omega);refine⟨x,f,?_,?_,g,?_⟩
    all_goals grind
  .intro j hj;simp only[Taa,c,Eab]at hj;by_cases n:j<sk.length-a
   .obtain⟨x,l,g⟩:=d.bound j (by omega)
    grind
   grind
theorem aJ{e:List GNode}:∀{n i k:Nat},i<=n->k<i->(Wj e n).1[k]?=(Wj e i).1[k]?
 |0,i,k,h,hk=>by omega
 |n+1,i,k,h,hk=>by
  by_cases hin:i=n+1
  .simp_all
  .have:(Wj e (n+1)).1=(Wj e n).1++[if 0<(He (Mg e n).Op).toNat then((Wj e n).2[(Wj e n).2.length-(He (Mg e n).Op).toNat]?).getD 0 else(n:Int)]:=rfl;rw[this,List.getElem?_append_left (by grind[sD])];exact aJ (by omega) hk
def iy(e:List GNode) (i j:Nat):Nat:=if j+1=Tl e i then i-1 else(((Wj e i).2[(Wj e i).2.length-Tl e i+j+1]?).getD 0).toNat-1
def kJ(e:List GNode) (i:Nat):List Int:=(zaa (Tl e i)).map λj=>(iy e i j:Int)
theorem fA{e:List GNode}(h:Wst e) {i:Nat}(hi:i<e.length) {j:Nat}(hj:j<Tl e i):iy e i j<i/\∃s:Nat,(Wj e e.length).1[iy e i j]?=some (s:Int)/\(∀d,d+1=j->iy e i d+1=s):=by
 have b:=GN h i (by omega);obtain⟨a1,l,a3⟩:=h.ar hi;have hi0:0<i:=by
  rcases Nat.eq_zero_or_pos i with m|m
  .have:=b.zero m;simp_all
  omega
 have g:iy e i j<i/\∃s:Nat,(Wj e i).1[iy e i j]?=some (s:Int)/\(Wj e i).2[(Wj e i).2.length-Tl e i+j]?=some (s:Int):=by
  unfold iy;generalize (Wj e i).1=st at b⊢;generalize (Wj e i).2=sk at b l⊢;generalize Tl e i=a at l hj⊢;by_cases c:j+1=a
  .rw[if_pos c];obtain⟨x,k,n⟩:=b.bound (sk.length-a+j) (by omega);exact⟨by omega,x,by rw[b.last (sk.length-a+j) (by omega)];omega,k⟩
  .rw[if_neg c];obtain⟨x,y,k,n,k3,k4⟩:=b.chain (sk.length-a+j) (by omega);obtain⟨y',q1,q2⟩:=b.bound (sk.length-a+j+1) (by omega)
   grind
 obtain⟨o,s,h2,h3⟩:=g;refine⟨o,s,by grind[aJ],λd f=>?_⟩;subst f;obtain⟨x,y,k,n,k3,k4⟩:=b.chain ((Wj e i).2.length-Tl e i+d) (by omega)
 grind[iy]
theorem eL{e:List GNode}(h:Wst e):∀{n k s:Nat},n<=e.length->(Wj e n).1[k]?=some (s:Int)->s<=k
 |0,k,s,_,a=>by grind[Wj]
 |n+1,k,s,hn,a=>by
  have hk:k<n+1:=by
   grind[sD]
  by_cases b:k=n
  .subst b;have c:=GN h (k+1) hn;have hne:=c.pos (by omega);obtain⟨q,hq⟩:∃q,q+1=(Wj e (k+1)).2.length:=⟨(Wj e (k+1)).2.length-1,by grind[List.length_pos_iff]⟩;have d:=c.last q hq;rw[nae,a]at d;obtain⟨x,k1,k2⟩:=c.bound q (by omega)
   grind
  .rw[aJ (i:=n) (by omega) (by omega)]at a;exact eL h (by omega) a
theorem JN{e:List GNode}(h:Wst e):tp e=((Wj e e.length).1,0,0):=by
 have:=h.pos;have:=h.le;have:=h.one;unfold tp;rw[if_neg (by omega),if_neg (by omega),Jb.2 h.err]
 simp_all
theorem CV{e:List GNode}(h:Wst e) {i:Nat}(hi:i<e.length) {step:List Int×Int×Int->Option (Ex (List Int×Int×Int) (List Int) Unit)}
 (g:∀a b c,step (a,b,c)=if 0<=c then(idx a c).bind λ_=>(put a c b).bind λm=>(idx (Wj e e.length).1 b).bind λk=>some (.go (m,ca .i64 (k-1),ca .i64 (c-1)))else some (.brk a)) :
 ja step (raa (Tl e i) 0,(i:Int)-1,(Tl e i:Int)-1)=some (.inl (kJ e i)):=by
 have hle:=h.le;obtain⟨a1,a2,a3⟩:=h.ar hi;have ha3:Tl e i<=12:=by have:=Ix (e:=e) (i:=i) λj hj=>h.err j (by omega);omega
 refine Yg (λt=>(raa (Tl e i-t) 0++(kJ e i).drop (Tl e i-t),(if t=0 then(i:Int)-1 else if t=Tl e i then(((Wj e e.length).1[iy e i 0]?).getD 0)-1 else(iy e i (Tl e i-t-1):Int)),(Tl e i:Int)-1-t)) (Tl e i) _ (λt ht=>?_) ?_ ?_
 .obtain⟨j,hj⟩:∃j,Tl e i=t+j+1:=⟨Tl e i-t-1,by omega⟩;obtain⟨o1,s,l,o3⟩:=fA h hi (j:=j) (by omega);rw[g];have d:(if t=0 then(i:Int)-1 else if t=Tl e i then(((Wj e e.length).1[iy e i 0]?).getD 0)-1 else(iy e i (Tl e i-t-1):Int))=(iy e i j:Int):=by
   by_cases t0:t=0
   .grind[iy]
   grind
  rw[d,if_pos (by omega),show(Tl e i:Int)-1-t=((j:Nat):Int) by omega];have hL:(kJ e i).length=Tl e i:=by simp[kJ]
  rw[Pa (i:=j) (by grind),naa,Ty (by grind),naa];rw[MU,l,naa];have f:(raa (Tl e i-t) 0++(kJ e i).drop (Tl e i-t)).set j (iy e i j:Int)=raa (Tl e i-(t+1)) 0++(kJ e i).drop (Tl e i-(t+1)):=by
   rw[show Tl e i-t=j+1 by omega,show Tl e i-(t+1)=j by omega,List.replicate_succ',Saa,qad _ _ (by simp),Pab,yac]
   grind[kJ,mab]
  have hlt:iy e i j<(Wj e e.length).1.length:=by grind
  have g:(s:Int)-1=(if t+1=0 then(i:Int)-1 else if t+1=Tl e i then(((Wj e e.length).1[iy e i 0]?).getD 0)-1 else(iy e i (Tl e i-(t+1)-1):Int)):=by
   rw[if_neg (by omega)];by_cases j0:j=0
   all_goals grind
  have hsb:(0:Int)<=s/\(s:Int)<=100:=by
   have:=eL h (Haa _) l;omega
  rw[f,wid (n:=(s:Int)-1) (by omega) (by omega),wid (n:=((j:Nat):Int)-1) (by omega) (by omega),g];congr 4;omega
 .grind
 simp_all[kJ]
theorem Jv{e:List GNode}(h:Wst e) {i:Nat}(hi:i<e.length) {env:GEnv}:we ⟨e,(Wj e e.length).1,env⟩ (i:Int)=some (kJ e i):=by
 have hle:=h.le;obtain⟨a1,a2,a3⟩:=h.ar hi;have ha3:Tl e i<=12:=by have:=Ix (e:=e) (i:=i) λj hj=>h.err j (by omega);omega
 have d:He (Mg e i).Op=(Tl e i:Int):=by grind[Tl]
 unfold we;dsimp only;rw[Pa hi,naa,Ht hi,mn,naa,d,nB (by omega) (by omega),naa,Pab,wid (n:=(i:Int)-1) (by omega) (by omega),wid (n:=(Tl e i:Int)-1) (by omega) (by omega),CV h hi λa b c=>by grind[sh]];rfl
theorem SL(e:List GNode) (i:Nat):Tl e i<=3:=by
 grind[Tl,He]
theorem YO(e:List GNode) (i:Nat):(kJ e i).length=Tl e i:=by simp[kJ]
theorem qD{e:List GNode}{i t:Nat}(h:t<Tl e i):idx (kJ e i) (t:Int)=some ((iy e i t:Nat):Int):=by
 grind[kJ,Pa]
theorem lF{α:Type}{f:Nat->α}{k t:Nat}(h:t<k):((zaa k).map f).take (t+1)=((zaa k).map f).take t++[f t]:=by
 grind[Uaa]
theorem W5{op:Int}{α:Type}{k:Bool->Option α}:(oaa (α:=Bool) (if op=23 then some true else if op=24 then some true else some (op==26)) k)=k (decide (op=23\/op=24\/op=26)):=by
 grind
def Hv(p:GValue×Int):GValue×Int:=if¬p.2=0 then(⟨0,0,0⟩,p.2)else if p.1.Kind=1/\Kc p.1 then p else(⟨0,0,0⟩,8)
theorem boolO{v:GValue}{α:Type}{k:Bool->Option α}:(oaa (α:=Bool) (if v.Kind=1 then(Xb v).bind λa=>some (!a)else some true) k)=k (decide (¬(v.Kind=1/\Kc v))):=by
 grind[jz,Xc]
theorem S7{a:GEval_evaluator->Int->Option (GValue×Int)}{R250 b}{x:GEval_evaluator}{j:Int}{p:GValue×Int}(h:a x j=some p):Ac a R250 b x j=some (Hv p):=by
 unfold Ac Hv;rw[h,naa];simp only[boolO]
 grind
def tK(op N:Int) (a b c:GValue×Int):GValue×Int:=
 if¬N=0 then(⟨0,0,0⟩,2)else
 if¬(Hv a).2=0 then(⟨0,0,0⟩,(Hv a).2)else
 if op=26 then(if(Hv a).1.N=1 then b else c)else
 if(op==23)=((Hv a).1.N==0)then((Hv a).1,0)else Hv b
theorem XU{op N:Int}{c a b:GValue×Int}(h1:a.2=0->Kc a.1) (h2:b.2=0->Kc b.1):(tK op N c a b).2=0->Kc (tK op N c a b).1:=by
 grind[tK,Hv]
theorem QS{l:List GValue}(hl:l.length<=1048576):Ai l=some (l.all jz):=by
 have a:ja (Zf l) 0=some (Ki () (ff (λi=>if(l[i]?.any λv=>!jz v)=true then some false else none) l.length)):=
  Th (λi=>(i:Int)) _ l.length () (λi hi _=>by
   unfold Zf;rw[if_pos (by omega),Pa hi,qaa hi]
   grind[aD,Xc,Ha]) (λ_=>by grind[Zf])
 unfold Ai;rw[a];by_cases h:l.all jz=true
 .have hn:∀i,i<l.length->(l[i]?.any λv=>!jz v)=false:=by
   simp_all
  rw[Jb.2 (λi hi=>by simp_all),h];rfl
 .have hb:l.all jz=false:=by simp_all
  obtain⟨x,hx,hx2⟩:∃x∈l,jz x=false:=by
   simp_all
  obtain⟨k,hk,rfl⟩:=Aaa hx;have ne:ff (λi=>if(l[i]?.any λv=>!jz v)=true then some false else none) l.length=some false:=by
   cases hf:ff (λi=>if(l[i]?.any λv=>!jz v)=true then some false else none) l.length with
   |none=>
    grind[Jb]
   |some w=>
    obtain⟨i,_,h2,_⟩:=Ob.1 hf
    simp_all
  rw[ne,hb];rfl
theorem vJ{n:GNode}{args:List GValue}{env:GEnv}(ha:args.length<=3) (h:1<=n.Op/\n.Op<=39->He n.Op=args.length->wfS n=true->Jz n env=true->(∀a∈args,Kc a)->Ys (Ug n args env)):Ys (Zi n args env):=by
 unfold Zi;rw[dH,mn,uy,QS (l:=args) (by omega)];simp only[naa];have err:∀{c:Int},c≠0->Ys (some (⟨0,0,0⟩,c)):=λh=>⟨_,rfl,λh2=>absurd h2 h⟩;by_cases i:1<=n.Op/\n.Op<=39
 case neg=>grind
 rw[decide_eq_true i];simp only[xac];by_cases h2:wfS n=true
 case neg=>simp_all
 rw[h2];simp only[if_true];by_cases m:He n.Op=args.length
 case neg=>
  grind
 have:((args.length:Int) !=He n.Op)=false:=by grind
 rw[this];simp only[naa,Eaa,if_false];by_cases j:Jz n env=true
 case neg=>simp_all
 rw[j];simp only[Bool.true_eq_false,if_false];by_cases k:args.all jz=true
 case neg=>grind
 rw[k];simp only[if_true];have o:∀a∈args,Kc a:=λa ha=>of_decide_eq_true (List.all_eq_true.1 k a ha);have hc:=h i m h2 j o;have e1:(oaa (α:=Bool) ((qa n args env).bind λf=>some (!f)) λe=>if e=true then some ((⟨0,0,0⟩:GValue),(8:Int))else(Ea n args env).bind λd=>if¬d.2=0 then some (⟨0,0,0⟩,d.2)else(Xb d.1).bind λg=>if g=false then some (⟨0,0,0⟩,3)else some (d.1,0))=Ug n args env:=by
  unfold Ug
  cases qa n args env with
  |none=>rfl
  |some b=>
   grind[Xc]
 simp_all
noncomputable def ZC(e:List GNode) (env:GEnv) (i:Nat):GValue×Int:=((da (3*i+3)).1 ⟨e,(Wj e e.length).1,env⟩ i).getD (⟨0,0,0⟩,0)
noncomputable def LA(e:List GNode) (env:GEnv) (i:Nat):List GValue:=(zaa (Tl e i)).map λt=>(ZC e env (iy e i t)).1
noncomputable def TL(e:List GNode) (env:GEnv) (i:Nat) (t:Nat):Option (GValue×Int):=if¬(ZC e env (iy e i t)).2=0 then some (⟨0,0,0⟩,(ZC e env (iy e i t)).2)else none
noncomputable def MY(e:List GNode) (env:GEnv) (i:Nat):GValue×Int:=
 if(Mg e i).Op=23\/(Mg e i).Op=24\/(Mg e i).Op=26 then
  tK (Mg e i).Op (Mg e i).N (ZC e env (iy e i 0)) (ZC e env (iy e i 1)) (if(Mg e i).Op=26 then ZC e env (iy e i 2)else(⟨0,0,0⟩,1))
 else match ff (TL e env i) (Tl e i)with
  |some v=>v
  |none=>(Zi (Mg e i) (LA e env i) env).getD (⟨0,0,0⟩,0)
structure NodeP (e:List GNode) (env:GEnv) (i:Nat):Prop where
 p:∀n,3*i+3<=n->(da n).1 ⟨e,(Wj e e.length).1,env⟩ i=some (ZC e env i)
 ok:(ZC e env i).2=0->Kc (ZC e env i).1
 q:ZC e env i=MY e env i
theorem GK{e:List GNode}{env:GEnv}{i:Nat}(h1:∀n,3*i+3<=n->(da n).1 ⟨e,(Wj e e.length).1,env⟩ i=some (MY e env i)) (h3:(MY e env i).2=0->Kc (MY e env i).1):NodeP e env i:=by
 have:ZC e env i=MY e env i:=by
  simp_all[ZC]
 exact⟨by simp_all,by simp_all,this⟩
theorem kY{e:List GNode}{env:GEnv}(h:Wst e) {i:Nat}(hi:i<e.length) {n:Nat}(b:∀j,j<i->(da n).1 ⟨e,(Wj e e.length).1,env⟩ j=some (ZC e env j)) :
 ja (Wc ⟨e,(Wj e e.length).1,env⟩ (kJ e i) (da n).1) (raa (Tl e i) ⟨0,0,0⟩,0)=some (Ki (LA e env i) (ff (TL e env i) (Tl e i))):=by
 have hl:=YO e i;have h3:=SL e i;refine Th (step:=Wc ⟨e,(Wj e e.length).1,env⟩ (kJ e i) (da n).1) (λt=>((LA e env i).take t++raa (Tl e i-t) ⟨0,0,0⟩,(t:Int))) (TL e env i) (Tl e i) (LA e env i) (λt ht _=>?_) (λ_=>?_) (by simp)
 .obtain⟨c,-⟩:=fA h hi ht;have a:(LA e env i).length=Tl e i:=by simp[LA]
  unfold Wc;dsimp only;rw[if_pos (by omega),qD ht,naa,b _ c,naa];unfold TL;by_cases hc:(ZC e env (iy e i t)).2=0
  .rw[if_neg (waa.2 hc),if_neg (waa.2 hc)];rw[Pa (by grind),naa,Ty (by grind),naa,Ha (by omega)];unfold aD;dsimp only;congr 3;rw[qad _ _ (by grind),show t-((LA e env i).take t).length=0 by grind,show Tl e i-t=(Tl e i-(t+1))+1 by omega,List.replicate_succ,List.set_cons_zero]
   grind[LA,lF]
  .rw[if_pos hc,if_pos hc];rfl
 .unfold Wc;dsimp only;rw[if_neg (by omega),yac];have a:(LA e env i).length=Tl e i:=by simp[LA]
  grind
theorem node_g{e:List GNode}(h:Wst e) {env:GEnv}(hA:∀i,i<e.length->¬((Mg e i).Op=23\/(Mg e i).Op=24\/(Mg e i).Op=26)->Ys (Zi (Mg e i) (LA e env i) env)):∀i,i<e.length->NodeP e env i:=by
 intro i
 induction i using Nat.strongRecOn with
 |_ i k=>
  intro hi;have hle:=h.le;have har:=h.ar hi;have hga:=SL e i;have f:=YO e i;by_cases b:(Mg e i).Op=23\/(Mg e i).Op=24\/(Mg e i).Op=26
  .have hk:2<=Tl e i/\((Mg e i).Op=26->Tl e i=3):=by
    unfold Tl;rcases b with h|h|h<;>rw[h]<;>decide
   have r:=(fA h hi (j:=0) (by omega)).1;have x:=(fA h hi (j:=1) (by omega)).1;have s:=k _ r (by omega);have l:=k _ x (by omega);have u:idx (kJ e i) 0=some ((iy e i 0:Nat):Int):=qD (t:=0) (by omega);have w:idx (kJ e i) 1=some ((iy e i 1:Nat):Int):=qD (t:=1) (by omega);have d:(Mg e i).Op=26->NodeP e env (iy e i 2)/\iy e i 2<i/\idx (kJ e i) 2=some ((iy e i 2:Nat):Int):=λa=>by
    grind[fA,qD]
   have hq:MY e env i=_:=if_pos b;refine GK (λn hn=>?_) (by
    rw[hq];exact XU l.ok (by
     split
     .rename_i a;exact(d a).1.ok
     omega))
   rw[hq];obtain⟨n,rfl⟩:∃m,n=m+3:=⟨n-3,by omega⟩;show Bc (da (n+2)).1 (da (n+2)).2.1 (da (n+2)).2.2 _ _=_;unfold Bc;dsimp only;rw[Pa hi,naa,Ht hi,Jv h hi,naa,W5,decide_eq_true b,if_pos rfl,PG];show vf (da (n+1)).1 (da (n+1)).2.1 (da (n+1)).2.2 _ _ _=_;unfold vf tK;by_cases c:(Mg e i).N=0
   case neg=>simp_all
   rw[if_neg (waa.2 c),if_neg (waa.2 c),u,naa];have g:∀j,j<i->NodeP e env j->(da (n+1)).2.2 ⟨e,(Wj e e.length).1,env⟩ (j:Int)=some (Hv (ZC e env j)):=λj hj hb=>(show Ac (da n).1 (da n).2.1 (da n).2.2 _ _=_ from S7 (hb.p n (by omega)));rw[g _ r s,naa];by_cases hc:(Hv (ZC e env (iy e i 0))).2=0
   case neg=>simp_all
   rw[if_neg (waa.2 hc),if_neg (waa.2 hc)];by_cases a:(Mg e i).Op=26
   .obtain⟨c1,c2,c3⟩:=d a;rw[if_pos a,if_pos a,naa,if_pos a,if_pos a];by_cases o:(Hv (ZC e env (iy e i 0))).1.N=1
    .rw[if_pos (by simp_all),if_pos o,w,naa,PG];exact l.p (n+1) (by omega)
    .rw[if_neg (by simp_all),if_neg o,c3,naa,PG];exact c1.p (n+1) (by omega)
   grind
  .obtain⟨q,q1,q3⟩:=hA i hi b;have hff:∀v,ff (TL e env i) (Tl e i)=some v->v.2≠0:=by
    grind[TL,Ob]
   have hq:MY e env i=(match ff (TL e env i) (Tl e i)with|some v=>v|none=>q):=by
    simp_all[MY]
   refine GK (λn hn=>?_) ?_
   .rw[hq];obtain⟨n,rfl⟩:∃m,n=m+1:=⟨n-1,by omega⟩;show Bc (da n).1 (da n).2.1 (da n).2.2 _ _=_;unfold Bc;dsimp only;rw[Pa hi,naa,Ht hi,Jv h hi,naa,W5,decide_eq_false b,if_neg (by simp),f,nB (by omega) (by omega),naa,kY h hi (λj hj=>(k j hj (by omega)).p n (by omega)),naa]
    grind[aN,outR_s]
   grind
theorem P6{e:List GNode}{env:GEnv}(h:Wst e) (hb:NodeP e env (e.length-1)):il e env=some (ZC e env (e.length-1))/\((ZC e env (e.length-1)).2=0->Kc (ZC e env (e.length-1)).1):=by
 have hf:1000000<=Kt:=by grind[Kt]
 have hp:=h.pos;have hle:=h.le;unfold il Kq;rw[Tp];simp only[naa];rw[JN h];have a:ca .i64 ((e.length:Int)-1)=((e.length-1:Nat):Int):=by grind[wid]
 unfold oj;rw[a];dsimp only;rw[if_neg (by decide),hb.p _ (by omega)];exact⟨rfl,hb.ok⟩
noncomputable def QF(t0 t1:List Int) (i:Nat):Option Int:=
 match t0[i]?,t1[i]? with
 |some p,some q=>if p < -1\/(i:Int)<=p then some 9 else if q<0\/9<q then some 3 else none
 |_,_=>none
noncomputable def KH(t0 t1:List Int):Int:=
 if¬(t0.length:Int)=(t1.length:Int)then 2 else if 8<(t0.length:Int)then 4 else
 match ff (QF t0 t1) t0.length with|some v=>v|none=>0
theorem G0{a b:Prop} [Decidable a] [Decidable b] {α:Type}{k:Bool->Option α}:(oaa (α:=Bool) (if¬a then some (decide b)else some true) k)=k (decide (a\/b)):=by
 grind
theorem my(t0 t1:List Int):Ni t0 t1=some (KH t0 t1):=by
 unfold Ni KH;by_cases hl:(t0.length:Int)=(t1.length:Int)
 case neg=>simp_all
 rw[if_neg (waa.2 hl),if_neg (waa.2 hl)];by_cases a:8<(t0.length:Int)
 .simp_all
 rw[if_neg a,if_neg a];have b:ja (jg t0 t1) 0=some (Ki () (ff (QF t0 t1) t0.length)):=
  Th (λi=>(i:Int)) _ t0.length () (λi hi _=>by
   unfold jg QF;rw[if_pos (by omega),Pa hi,qaa hi,qaa (l:=t1) (by omega)];dsimp only;rw[naa,G0,Pa (l:=t1) (by omega),naa,G0,Ha (by omega)]
   grind[aD]) (λ_=>by grind[jg])
 rw[b];cases ff (QF t0 t1) t0.length<;>rfl
structure TreeOk (t0 t1:List Int):Prop where
 len:t0.length=t1.length
 le:t0.length<=8
 par:∀i (h:i<t0.length),-1<=t0[i]/\t0[i]<(i:Int)
theorem YR{t0 t1:List Int}(h:KH t0 t1=0):TreeOk t0 t1:=by
 unfold KH at h;by_cases hl:(t0.length:Int)=(t1.length:Int)
 case neg=>omega
 rw[if_neg (waa.2 hl)]at h;by_cases a:8<(t0.length:Int)
 .omega
 rw[if_neg a]at h;refine⟨by omega,by omega,λi hi=>?_⟩;have hn:ff (QF t0 t1) t0.length=none:=by
  grind[QF,Ob]
 grind[QF,Jb]
def qT(t0:List Int) (at_:Int):Nat->List Int
 |0=>[]
 |n+1=>if t0[n]?=some at_ then qT t0 at_ n++[(n:Int)]else qT t0 at_ n
def RG(t0:List Int) (at_:Int):List Int:=qT t0 at_ t0.length
theorem dI(t0:List Int) (a:Int):∀n,(qT t0 a n).length<=n
 |0=>by simp[qT]
 |n+1=>by
  have:=dI t0 a n
  grind[qT]
theorem sz{t0:List Int}{a x:Int}:∀{n:Nat},x∈qT t0 a n->∃k:Nat,x=(k:Int)/\k<n/\t0[k]?=some a
 |0,h=>by grind[qT]
 |n+1,h=>by
  unfold qT at h;split at h
  .rename_i hn;rcases List.mem_append.1 h with h|h
   .obtain⟨k,b,c,d⟩:=sz h;grind
   grind
  .obtain⟨k,b,c,d⟩:=sz h;grind
theorem ky{t0:List Int}(hl:t0.length<=1048576) (a:Int):Mi t0 a=some (RG t0 a):=by
 have step:ja (ig t0 a) (([]:List Int),0)=some (.inl (RG t0 a)):=by
  refine Yg (λi=>(qT t0 a i,(i:Int))) t0.length _ (λi hi=>?_) ?_ rfl
  .have h1:=dI t0 a i;unfold ig;dsimp only;rw[if_pos (by omega),Pa hi,naa,Ha (by omega)];simp only[qT,qaa hi,aab];by_cases hc:t0[i]=a
   .rw[if_pos hc,if_pos hc,kj (by grind)];rfl
   simp_all
  grind[ig,RG]
 grind[Mi]
def pri(t1:List Int) (x:Int):Int:=(t1[x.toNat]?).getD 0
def qw(t1:List Int) (out:Int->Int) (acc:List Int) (x:Int):List Int:=
 if out x = -1 then acc else
 match acc with
 |[]=>[x]
 |y::l=>if pri t1 y<pri t1 x then [x]else if pri t1 x=pri t1 y then y::l++[x]else y::l
def ku(t1:List Int) (out:Int->Int) (l:List Int):List Int:=l.foldl (qw t1 out) []
theorem kx{t1:List Int}{out:Int->Int}{l:List Int}:∀x∈ku t1 out l,x∈l:=by
 have:∀(l acc:List Int),∀x∈l.foldl (qw t1 out) acc,x∈acc\/x∈l:=by
  intro l
  induction l with
  |nil=>simp
  |cons y l a=>
   intro acc x hx;rcases a _ x hx with h|h
   .unfold qw at h
    grind
   simp_all
 intro x hx;rcases this l [] x hx with h|h
 all_goals simp_all
theorem UP(t1:List Int) (out:Int->Int) (l:List Int):(ku t1 out l).length<=l.length:=by
 have:∀(l acc:List Int),(l.foldl (qw t1 out) acc).length<=acc.length+l.length:=by
  intro l
  induction l with
  |nil=>simp
  |cons y l a=>
   intro acc;refine Oab (a _) ?_;have:(qw t1 out acc y).length<=acc.length+1:=by
    unfold qw
    grind
   grind
 have h:=this l [];rw[Faa,Fab]at h;exact h
theorem VL{t1:List Int}{out:Int->Int}{l:List Int}{x:Int}:ku t1 out (l++[x])=qw t1 out (ku t1 out l) x:=by simp[ku]
theorem yJ{t1:List Int}{o a:Int->Int}{l:List Int}(h:∀x∈l,o x=a x):ku t1 o l=ku t1 a l:=by
 have:∀(l acc:List Int),(∀x∈l,o x=a x)->l.foldl (qw t1 o) acc=l.foldl (qw t1 a) acc:=by
  intro l
  induction l with
  |nil=>simp
  |cons y l ih=>
   simp_all[qw]
 exact this l [] h
theorem VP{t1:List Int}{out:Int->Int}{l:List Int}(hl:l.length<=100) (hm:∀x∈l,0<=x/\x<(t1.length:Int)) {step:List Int×Int->Option (Ex (List Int×Int) (List Int) Unit)}{g:Int->Option Int}(C:∀x∈l,g x=some (out x)) {mt:List Int->Option (List Int)}(j:∀q,mt q=some [])
 (D:∀a b,step (a,b)=if b<(l.length:Int)then
  oaa (α:=(List Int)) (
   (idx l b).bind λh=>(g h).bind λE=>if E=(-1)then some a else
   oaa (α:=(List Int)) (oaa (α:=Bool) (if 0<(a.length:Int)then(idx t1 h).bind λF=>(idx a 0).bind λp=>(idx t1 p).bind λs=>some (decide (s<F))else some false) λm=>if m=true then mt a else some a) λc=>
   oaa (α:=Bool) (if¬(c.length:Int)=0 then(idx t1 h).bind λt=>(idx c 0).bind λu=>(idx t1 u).bind λv=>some (t==v)else some true) λn=>
   if n=true then(app 8 c ([h])).bind λw=>some w else some c) λo=>some (Ex.go (o,(ca .i64 (b+1))))
  else some (Ex.brk a)):ja step (([]:List Int),0)=some (.inl (ku t1 out l)):=by
 refine Yg (λi=>(ku t1 out (l.take i),(i:Int))) l.length _ (λi hi=>?_) ?_ rfl
 .have B:=UP t1 out (l.take i);have h2:(l.take i).length<=l.length:=by grind
  have d:∀y∈ku t1 out (l.take i),0<=y/\y<(t1.length:Int):=λy z=>hm y (Tab (kx y z));rw[D,if_pos (by omega),Pa hi,naa,C _ (xaa hi),naa,Ha (by omega),Uaa,qaa hi];have hx:=hm _ (xaa hi);simp only[Option.toList_some,VL];generalize l[i]=x at hx⊢;have k:idx t1 x=some (pri t1 x):=by grind[pri,pn]
  generalize ku t1 out (l.take i)=acc at B d⊢;unfold qw;by_cases ho:out x = -1
  .simp_all
  rw[if_neg ho,if_neg ho];rcases acc with _|⟨y,r⟩
  .simp_all[kj]
  .have z:=d y (by simp);have f:idx t1 y=some (pri t1 y):=by grind[pri,pn]
   have A:∀(q:List Int),idx (y::q) 0=some y:=λq=>by simp[idx]
   dsimp only;rw[if_pos (by simp),k,A,naa,naa,f,naa,naa];by_cases e:pri t1 y<pri t1 x
   .rw[if_pos (by simp_all),j,naa,if_neg (by simp),naa,if_pos rfl,kj (by simp),if_pos e];rfl
   .rw[if_neg (by simp_all),naa,if_pos (by grind),naa,A,naa,f,naa,naa,if_neg e];by_cases he:pri t1 x=pri t1 y
    .rw[if_pos (by simp_all),if_pos he,kj (by grind)];rfl
    simp_all
 simp_all
def JL(t1:List Int) (out:Int->Int) (l:List Int):Int:=
 match ku t1 out l with
 |[]=>-1
 |[x]=>out x
 |_=>-2
theorem oR{t1:List Int}{o a:Int->Int}{l:List Int}(h:∀x∈l,o x=a x):JL t1 o l=JL t1 a l:=by
 grind[JL,yJ,kx]
def oc(t0 t1:List Int) (t2:List Bool):Nat->Int->Int
 |0,_=>-1
 |k+1,i=>if JL t1 (oc t0 t1 t2 k) (RG t0 i) = -1/\(t2[i.toNat]?).getD false=true then i else JL t1 (oc t0 t1 t2 k) (RG t0 i)
theorem lO{t0 t1:List Int}(h:TreeOk t0 t1) {i x:Int}(hx:x∈RG t0 i):i<x/\0<=x/\x<(t0.length:Int):=by
 obtain⟨k,rfl,hk,hp⟩:=sz hx;have:=h.par k hk
 simp_all
theorem mR{t0 t1:List Int}{t2:List Bool}(h:TreeOk t0 t1):∀(d:Nat) (i:Int),0<=i->(t0.length:Int)-i<=d->∀k a:Nat,(t0.length:Int)-i<=k->(t0.length:Int)-i<=a->i<t0.length->oc t0 t1 t2 k i=oc t0 t1 t2 a i:=by
 intro d
 induction d with
 |zero=>omega
 |succ d ih=>
  intro i h0 hd k a hk hk' hi;obtain⟨k,rfl⟩:∃m,k=m+1:=⟨k-1,by omega⟩;obtain⟨a,rfl⟩:∃m,a=m+1:=⟨a-1,by omega⟩;have:JL t1 (oc t0 t1 t2 k) (RG t0 i)=JL t1 (oc t0 t1 t2 a) (RG t0 i):=oR λx hx=>by
   have:=lO h hx
   grind
  grind[oc]
def O(t0 t1:List Int) (t2:List Bool) (i:Int):Int:=oc t0 t1 t2 t0.length i
theorem O_eq{t0 t1:List Int}{t2:List Bool}(h:TreeOk t0 t1) {i:Int}(a:0<=i) (b:i<t0.length):O t0 t1 t2 i=if JL t1 (O t0 t1 t2) (RG t0 i) = -1/\(t2[i.toNat]?).getD false=true then i else JL t1 (O t0 t1 t2) (RG t0 i):=by
 unfold O;rw[mR h t0.length i a (by omega) t0.length (t0.length+1) (by omega) (by omega) b];rfl
noncomputable def PR(t0 t1:List Int) (t2:List Bool):Int:=if KH t0 t1=0/\t2.length=t0.length then JL t1 (O t0 t1 t2) (RG t0 (-1))else -1
theorem dA{t0 t1 out:List Int}(h:TreeOk t0 t1) {f:Int->Int}{i:Int}(ho:∀x∈RG t0 i,idx out x=some (f x)):Nb ⟨t0,t1,out⟩ i=some (JL t1 f (RG t0 i)):=by
 have hle:=h.le;have hlen:=h.len;have hcl:=dI t0 i t0.length;unfold Nb Kk;dsimp only;rw[ky (by omega) i,naa];have hb:=VP (t1:=t1) (out:=f) (l:=RG t0 i) (by grind[RG]) (λx hx=>by have:=lO h hx;omega) (step:=Qh ⟨t0,t1,out⟩ (RG t0 i)) (g:=λx=>idx out x) ho (mt:=λq=>(Tr q 0).bind λc=>some c) (λq=>by rw[show(0:Int)=((0:Nat):Int)from rfl,Nv (by omega)];rfl) (λa b=>by grind[Qh]);rw[hb];simp only[naa];unfold JL;have d:=kx (t1:=t1) (out:=f) (l:=RG t0 i);generalize ku t1 f (RG t0 i)=r at d⊢;rcases r with _|⟨x,_|⟨y,q⟩⟩
 all_goals grind[idx]
theorem bN{t0 t1:List Int}{t2:List Bool}(h:TreeOk t0 t1) (h2:t2.length=t0.length):Oi t0 t1 t2=some ((zaa t0.length).map λ(k:Nat)=>O t0 t1 t2 (k:Int)):=by
 have hle:=h.le;unfold Oi;rw[nB (by omega) (by omega),naa,wid (by omega) (by omega)];have hl:ja (kg t0 t1 t2) (raa t0.length 0,(t0.length:Int)-1)=some (.inl ((zaa t0.length).map λ(k:Nat)=>O t0 t1 t2 (k:Int))):=by
  refine Yg (λt=>((zaa t0.length).map (λ(k:Nat)=>if k<t0.length-t then 0 else O t0 t1 t2 (k:Int)),(t0.length:Int)-1-t)) t0.length _ (λt ht=>?_) ?_ ?_
  .obtain⟨j,hj⟩:∃j,t0.length=t+j+1:=⟨t0.length-t-1,by omega⟩;have f:(t0.length:Int)-1-t=(j:Int):=by omega
   have b:t0.length-t=j+1:=by omega
   have c:t0.length-(t+1)=j:=by omega
   skip
   rw[f,b,c];unfold kg;dsimp only;rw[if_pos (by omega)];have d:Nb ⟨t0,t1,(zaa t0.length).map (λ(k:Nat)=>if k<j+1 then 0 else O t0 t1 t2 (k:Int))⟩ (j:Int)=some (JL t1 (O t0 t1 t2) (RG t0 (j:Int))):=by
    refine dA h λx hx=>?_;have:=lO h hx;obtain⟨k,rfl⟩:=Cab this.2.1;rw[Pa (by grind)]
    grind
   rw[d,naa,Pa (by grind),naa,Ty (by grind),naa];rw[Pa (by grind)];simp only[List.getElem_set_self,naa];have e:=O_eq (t2:=t2) h (i:=(j:Int)) (by omega) (by omega);rw[Bac,qaa (by omega)]at e;simp only[Option.getD_some]at e;have a:∀v,v=O t0 t1 t2 (j:Int)->((zaa t0.length).map (λ(k:Nat)=>if k<j+1 then 0 else O t0 t1 t2 (k:Int))).set j v=(zaa t0.length).map (λ(k:Nat)=>if k<j then 0 else O t0 t1 t2 (k:Int)):=by
    intro v hv;apply Yab
    all_goals grind
   have hw:ca .i64 ((j:Int)-1)=(t0.length:Int)-1-((t+1:Nat):Int):=by grind[wid]
   by_cases hm:JL t1 (O t0 t1 t2) (RG t0 (j:Int)) = -1
   .rw[if_pos hm,Pa (l:=t2) (by omega),naa,naa];by_cases ha:t2[j]'(by omega)=true
    .rw[if_pos ha,Ty (by grind),naa,naa,List.set_set,a _ (by simp_all),hw]
    simp_all
   simp_all
  .grind[kg]
  ·((try dsimp only))
   rw[Nat.sub_zero];congr 1
   .apply Yab
    all_goals simp_all
   .simp
 simp_all
theorem Lt(t0 t1:List Int) (t2:List Bool):Wk t0 t1 t2=some (PR t0 t1 t2):=by
 unfold Wk PR;rw[my t0 t1,naa];by_cases hv:KH t0 t1=0
 case neg=>simp_all
 rw[if_pos hv,naa];by_cases h2:t2.length=t0.length
 case neg=>grind
 have h:=YR hv;rw[if_neg (by simp_all),if_pos ⟨hv,h2⟩,bN h h2,naa,dA h (f:=O t0 t1 t2) λx hx=>by
  have:=lO h hx;obtain⟨k,rfl⟩:=Cab this.2.1
  grind[Pa]]
 rfl
section
variable {rules:List GRule} {q:GRule->Bool}
end
def vF(s:GScope) (x:Int):Int:=((s.Rules[x.toNat]?).map (·.Priority)).getD 0
def zP(s:GScope) (d date:Int):List Int×List Int×List Int:=
 ((jo s.Rules (pR d date) s.Rules.length).1,(jo s.Rules (pR d date) s.Rules.length).2.1,(jo s.Rules (pR d date) s.Rules.length).1.map (vF s))
theorem Cs{s:GScope}(a:s.Rules.length<=1048576) (d date:Int):kh s d date=some (zP s d date):=by
 unfold kh zP;rw[Uv a (q:=pR d date) (λr=>by
  grind[Ze,pR,vi]),naa]
 have hl:=(kA (rules:=s.Rules) (q:=pR d date) s.Rules.length).2.1;have hm:=pF (rules:=s.Rules) (q:=pR d date) s.Rules.length;generalize (jo s.Rules (pR d date) s.Rules.length).2.1=pp;generalize (jo s.Rules (pR d date) s.Rules.length).1=L at hl hm;have h1:ja (Jg s (L,pp)) (([]:List Int),0)=some (.inl (L.map (vF s))):=by
  refine Yg (λi=>((L.take i).map (vF s),(i:Int))) L.length _ (λi hi=>?_) ?_ rfl
  .have hx:=hm _ (xaa hi);have h2:(L.take i).length<=L.length:=by grind
   unfold Jg;dsimp only;rw[if_pos (by omega),Pa hi,naa,pn hx.1 hx.2.1,naa,kj (by grind),naa,Ha (by omega),Uaa,qaa hi]
   grind[vF]
  simp_all[Jg]
 simp_all
end Go.Proofs.Dev
