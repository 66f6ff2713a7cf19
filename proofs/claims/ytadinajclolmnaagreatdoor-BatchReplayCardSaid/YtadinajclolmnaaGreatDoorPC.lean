/-
  The functions as plain partial functions, and plain lemmas about them: no condition.
-/
import Derived.Test.YtadinajclolmnaaGreatDoorPB
open Option renaming some->M,none->u4
open Decidable renaming decide->D1
open Go.Tm.Ex renaming go->n?,brk->o?
open Bool renaming false_eq_true->M',true_and->X?,true->a29,false->a30
open Classical renaming not_not->E!
open Decidable renaming not_not->Kah
open Int renaming eq_ofNat_of_zero_le->wag,natAbs_mul->iaj,natCast_one->Haj,reduceBEq->rag,reduceEq->l!,tdiv->I',tdiv_eq_ediv_of_nonneg->Qag,tmod->S!,toNat_natCast->oag
open List renaming append_assoc->H!,drop_eq_getElem_cons->Eaf,ext_getElem->Yag,filter_append->Jag,filter_eq_nil_iff->Vah,getElem?_append_right->jah,getElem?_eq_getElem->x!,getElem_mem->E',getElem_of_mem->O',length_append->G!,length_cons->w!,length_filter_le->Zaf,length_nil->A?,length_replicate->Kag,length_singleton->yag,mem_of_mem_take->Xaf,nil_append->G?,pairwise_iff_getElem->Fag,range->s?,replicate->h!,set_append_right->sai,take_add_one->Ι
open Nat renaming add_sub_cancel->Gai,div_le_self->mai,le_refl->A',le_trans->Lag,mod_lt->Oah,mul_le_mul->sah,sub_self->tah,zero_add->Z!
open Option renaming bind->e?,bind_some->b?
open Option.some renaming injEq->M?
set_option linter.all false
set_option maxRecDepth 10000
set_option maxHeartbeats 1000000
namespace Go.Proofs.Dev
noncomputable section
open Go Go.Tm
variable {a b v:bz}{α β:Type}{step:List Int×Int->Option (Ex (List Int×Int) (List Int) Unit)}{x0:List js}{q:List Int}{y j mode op N:Int}{d r z len:Nat}{c:Prop}{o:Option Bool}{args:List bz}{out:Int->Int}{t2:List Bool}
def neB(r:js):Bool:=D1 (0<=r.r)&&(D1 (r.To<=109573)&&D1 (r.r<r.To))
theorem iy(r:js):Mk r=M (neB r):=by
 grind[Mk,kd,neB]
theorem Xu(r:js):Pc r=M (neB r):=by
 grind[Pc,kd,neB]
def J!:List js->List Int
 |[]=>[]
 |r::l=>(if neB r=a29 then [r.r,r.To]else [])++J! l
theorem Caa{a b:List js}:J! (a++b)=J! a++J! b:=by
 induction a with
 |nil=>rfl
 |cons x l ih=>grind[J!]
theorem ju:∀l:List js,(J! l).length<=2*l.length
 |[]=>by simp[J!]
 |r::l=>by
  have:=ju l
  grind[J!]
theorem we{l:List α}{i:Nat}(h:i<l.length):l.take (i+1)=l.take i++[l[i]]:=by
 simp
theorem PJ{n:Nat}{l:List α}(hn:n=l.length) {step:List β×Int->Option (Ex (List β×Int) (List β) Unit)}(g:List α->List β) (x0:List β)
 (a:∀i (h:i<l.length),step (x0++g (l.take i),(i:Int))=M (.go (x0++g (l.take (i+1)),((i+1:Nat):Int)))) (hend:∀x,step (x,(n:Int))=M (.brk x)) (h0:g []=[]):ja step (x0,0)=M (.inl (x0++g l)):=by
 subst hn;refine lf (λi=>(x0++g (l.take i),(i:Int))) l.length _ (λi hi=>a i hi) ?_ s5
 simp_all
theorem uQ{l:List js}(hl:l.length<=1048576) (a:step=Ue l\/step=Hd l):ja step ([],0)=M (.inl (J! l)):=by
 have h:=PJ (step:=step) (l:=l) rfl J! [] (λi hi=>by
  have h1:=ju (l.take i);have h2:(l.take i).length<=l.length:=s5
  rw[we hi,Caa];rcases a with rfl|rfl
  .unfold Ue;dsimp only;rw[J,Ma hi,b?,Xu,b?,Ha U]
   grind[J!,Lf]
  .unfold Hd;dsimp only;rw[J,Ma hi,b?,Xu,b?,Ha U]
   grind[J!,Lf]) (λx=>by
  rcases a with rfl|rfl
  all_goals grind[Ue,Hd]) rfl
 simp_all
theorem uZ{l:List Int}(h:l.length<=4194304):((gb l).bind λx=>(Oa x).bind λy=>M y)=M (ph l):=by
 unfold gb Oa;rw[J,b?,J aaQ,b?,kx]
theorem Jy{l:List js}(hl:l.length<=1048576):Ig l=M (ph (J! l)):=by
 have:=ju l;unfold Ig;rw[uQ hl (.inl rfl),b?]
 grind[uZ]
theorem xaa{l:List js}(hl:l.length<=1048576):vg l=M (ph (J! l)):=by
 have:=ju l;unfold vg;rw[uQ hl (.inr rfl),b?]
 grind[uZ]
def Rq(x:Int):Bool:=D1 (1<=x)&&D1 (x<=109572)
def ab7(t1:Int) (f:ka):Bool:=D1 (f.ar<=t1)&&neB f.ai
def YM(t1:Int) (l:List ka):List js:=(l.filter (ab7 t1)).map (·.ai)
theorem WO(t1:Int) (l:List ka):(YM t1 l).length<=l.length:=by
 grind[YM]
theorem ap7{t1:Int}{a b:List ka}:YM t1 (a++b)=YM t1 a++YM t1 b:=by simp[YM]
theorem Vx(l:List Int):(ph l).length<=l.length:=(Nh l).2.1
theorem VB{l:List ka}(t1:Int) (hl:l.length<=65536):Vd l t1=M ((ph (J! (YM t1 l))).filter Rq):=by
 unfold Vd;have e1:=PJ (step:=af l t1) (l:=l) rfl (YM t1) [] (λi hi=>by
  have c:=WO t1 (l.take i);have h2:(l.take i).length<=l.length:=s5
  have a:YM t1 [l[i]]=if ab7 t1 l[i]=a29 then [l[i].ai]else []:=by
   grind[YM]
  rw[we hi,ap7,a];have ha:=Lf (b:=16) (show((YM t1 (l.take i)).length + [l[i].ai].length)*16<=140737488355328 by grind);generalize YM t1 (l.take i)=w at *;unfold af;dsimp only;rw[J,Ma hi,b?,iy,Ha U]
  grind[ab7]) (λx=>by grind[af]) rfl
 rw[G?]at e1;have hk:=WO t1 l;have he:=ju (YM t1 l);have hd:=Vx (J! (YM t1 l));rw[e1,b?];dsimp only;rw[Jy U,b?];generalize ph (J! (YM t1 l))=q at *;have e2:=PJ (step:=Ze q) (l:=q) rfl (λl=>l.filter Rq) [] (λi hi=>by
  have c:=Zaf Rq (q.take i);have h2:(q.take i).length<=q.length:=s5
  rw[we hi,Jag];unfold Ze;dsimp only;rw[J,Ma hi,b?,Ha U]
  grind[Rq,Lf]) (λx=>by grind[Ze]) rfl
 simp_all
theorem aC3{σ β ρ:Type}{step:σ->Option (Ex σ β ρ)}(I:Nat->σ->Prop) (n:Nat) (Q:β->Prop) (c:∀j s,j<n->I j s->∃s',step s=M (.go s')/\I (j+1) s') (a:∀s,I n s->∃b,step s=M (.brk b)/\Q b) :
 ∀(k j:Nat) (s:σ),j+k=n->I j s->∃b,ja step s=M (.inl b)/\Q b
 |0,j,s,h,hi=>by
  rw[Nat.add_zero]at h;grind[Gb]
 |k+1,j,s,h,hi=>by
  obtain⟨s',h1,h2⟩:=c j s U hi;obtain⟨b,h3,h4⟩:=aC3 I n Q c a k (j+1) s' U h2
  grind[Gc]
def Kz(l:List po):List js:=l.flatMap λt=>t.Rows.map (·.ai)
def Iz(l:List fr):List js:=l.flatMap λs=>s.n.map (·.ai)
theorem YE:∀{l:List po},(∀t∈l,t.Rows.length<=150)->(Kz l).length<=150*l.length
 |[],_=>by simp[Kz]
 |t::l,h=>by
  have h1:=YE (l:=l) λx hx=>h x s5
  grind[Kz]
theorem SE:∀{l:List fr},(∀t∈l,t.n.length<=60)->(Iz l).length<=60*l.length
 |[],_=>by simp[Iz]
 |t::l,h=>by
  have h1:=SE (l:=l) λx hx=>h x s5
  grind[Iz]
theorem Sad{a b:List po}:Kz (a++b)=Kz a++Kz b:=by simp[Kz]
theorem xad{a b:List fr}:Iz (a++b)=Iz a++Iz b:=by simp[Iz]
theorem Tad{t:po}:Kz [t]=t.Rows.map (·.ai):=by simp[Kz]
theorem yad{t:fr}:Iz [t]=t.n.map (·.ai):=by simp[Iz]
theorem aC2{l:List α}(v:α->js) (hx:x0.length+l.length<=1048576) {step:List js×Int->Option (Ex (List js×Int) (List js) Unit)}
 (hgo:∀i (h:i<l.length) x,step (x,(i:Int))=(app 16 x [v l[i]]).bind λy=>M (.go (y,aa .i64 ((i:Int)+1)))) (a:∀x,step (x,(l.length:Int))=M (.brk x)):ja step (x0,0)=M (.inl (x0++l.map v)):=by
 refine PJ (step:=step) (l:=l) rfl (λl=>l.map v) x0 (λi hi=>?_) a rfl
 grind[Lf,Ha,we]
structure M! (l:ej):Prop where
 nt:l.Tables.length<=9
 ns:l.e.length<=5
 t:∀t∈l.Tables,t.Rows.length<=150
 s:∀s∈l.e,s.n.length<=60
variable {l:List Int}
def pT{l:List α}{i:Nat}{x:α}(h:x∈l.take i):x∈l:=Xaf h
theorem B3{l:ej}(h:M! l):ja (xc l) ([],0)=M (.inl (Kz l.Tables)):=by
 have hnt:=h.nt;have:=PJ (step:=xc l) (l:=l.Tables) rfl Kz [] (λi hi=>by
  have h1:=YE (l:=l.Tables.take i) λx hx=>h.t x (pT hx);have h2:(l.Tables.take i).length<=l.Tables.length:=s5
  have h3:=h.t l.Tables[i] p6;unfold xc;dsimp only;rw[J,Ma hi,b?,G?,aC2 (l:=l.Tables[i].Rows) (·.ai) U (λk hk x=>by simp_all[xg,Ma]) (λx=>by grind[xg]),b?,Ha U,we hi,Sad,Tad];rfl) (λx=>by grind[xc]) rfl
 simp_all
theorem Z2{l:ej}(h:M! l) (hx:x0.length<=10000):ja (wc l) (x0,0)=M (.inl (x0++Iz l.e)):=by
 have hns:=h.ns;refine PJ (step:=wc l) (l:=l.e) rfl Iz x0 (λi hi=>?_) (λx=>by grind[wc]) rfl;have h1:=SE (l:=l.e.take i) λx hx=>h.s x (pT hx);have h2:(l.e.take i).length<=l.e.length:=s5
 have h3:=h.s l.e[i] p6;unfold wc;dsimp only;rw[J,Ma hi,b?,aC2 (l:=l.e[i].n) (·.ai) s5 (λk hk x=>by simp_all[Uf,Ma]) (λx=>by grind[Uf]),b?,Ha U,we hi,xad,yad,H!]
theorem WQ(x:Int):Ic x=M (!Rq x):=by
 grind[Ic,Rq]
theorem Υ(h:∀i (hi:i<l.length),Rq l[i]=a29):l.filter Rq=l:=by
 rw[List.filter_eq_self];intro x hx;obtain⟨i,hi,rfl⟩:=O' hx
 simp_all
theorem yaa(hq:q.length<=1048576):∃c,wg q=M (c,q.filter Rq):=by
 unfold wg Pj;have p:=Ji (step:=Jd q) (x0:=0) (λi=>(i:Int)) (λi=>match q[i]? with|some x=>if Rq x=a29 then u4 else M (i:Int)|none=>u4) q.length () (λi hi _=>by
  unfold Jd;rw[J,Ma hi,b?,WQ,b?,Ha U]
  grind[qL]) (λ_=>by grind[Jd])
 rw[p]
 cases hf:ff (λi=>match q[i]? with|some x=>if Rq x=a29 then u4 else M (i:Int)|none=>u4) q.length with
 |none=>
  simp_all[Aj,Mb,Υ]
 |some v=>
  obtain⟨k,r,l,k3⟩:=Vb.1 hf;rw[x! r]at l;have hb:Rq q[k]=a30:=p5
  simp[hb]at l;subst l;have hk:(q.take k).filter Rq=q.take k:=Υ λi hi=>by
   grind
  simp only[Aj,b?];rw[s7,Ha U];obtain⟨⟨c,n⟩,hl,hc⟩:=aC3 (step:=Kd) (λj s=>s.2.2=(j:Int)/\s.1.length=q.length/\s.2.1=(((q.take j).filter Rq).length:Int)/\s.1.take ((q.take j).filter Rq).length=(q.take j).filter Rq/\s.1.drop j=q.drop j) q.length
   (λb=>b.1.length=q.length/\b.2=((q.filter Rq).length:Int)/\b.1.take (q.filter Rq).length=q.filter Rq) (λj s hj ⟨f,m,g,h,a⟩=>by
    obtain⟨c,n,jj⟩:=s;dsimp only at f m g h a;subst f g;have hle:=Zaf Rq (q.take j);have hlt:(q.take j).length=j:=s5
    have d:c[j]' U=q[j]:=by
     have o:(c.drop j)[0]?=(q.drop j)[0]?:=by rw[a]
     grind
    have hd:c.drop (j+1)=q.drop (j+1):=by
     have:=congrArg (List.drop 1) a;simpa using this
    unfold Kd;dsimp only;rw[J,Ma (show j<c.length by omega),b?,WQ,b?,d,Ha (show j<4611686018427387904 by omega),we hj,Jag];cases hb:Rq q[j]
    .simp_all
    .rw[J p6,Ma (show((q.take j).filter Rq).length<c.length by omega),b?,cD U,b?,Ha U];refine⟨_,rfl,rfl,p5,s5,?_,?_⟩
     .simp only[hb,List.filter_cons,List.filter_nil,B?,G!,w!,A?,Z!];rw[Ι,List.take_set_of_le (A' _),h,List.getElem?_set_self U];rfl
     grind[List.drop_set_of_lt]) (λs ⟨f,m,g,h,a⟩=>by
    simp_all[Kd]) (q.length-(k+1)) (k+1) (q,(k:Int),((k+1:Nat):Int)) U (by
    have e:(q.take (k+1)).filter Rq=q.take k:=by
     grind[we]
    grind)
  dsimp only at hc;obtain⟨o,rfl,h3⟩:=hc
  simp_all[ax3,Zaf,wZ,ax]
theorem fy{l:ej}(h:M! l):ag l=M ((ph (J! (Kz l.Tables++Iz l.e))).filter Rq):=by
 have hnt:=h.nt;have hns:=h.ns;have h1:=YE h.t;have h2:=SE h.s;have h3:=ju (Kz l.Tables++Iz l.e)
 grind[ag,Vx,B3,Z2,xaa,yaa]
def IJ(y:Int):Bool:=D1 (y % 4=0)&&(!D1 (y % 100=0) || D1 (y % 400=0))
def bn(y m:Int):Int:=if m=2 then(if IJ y=a29 then 29 else 28)else if m=4\/m=6\/m=9\/m=11 then 30 else 31
def sq(y:Int):Nat->Int
 |0=>0
 |n+1=>sq y n+bn y (n+1)
def Li:Nat->Int
 |0=>0
 |n+1=>Li n+(if IJ (1900+n)=a29 then 366 else 365)
def qae{a b:Int}(h:0<=a):a.tmod b=a % b:=Int.tmod_eq_emod_of_nonneg h
def KK{a b:Int}(h:0<=a):a.tdiv b=a / b:=Qag h
theorem AL(h:0<=y):du y=M (IJ y):=by
 grind[du,IJ]
theorem Rb{m:Int}(h:0<=y) (h1:1<=m) (h2:m<=12):qd y m=M (bn y m):=by
 unfold qd bn;rw[J,b?,s7 p5,AL h];rw[m? U U];have:m=1\/m=2\/m=3\/m=4\/m=5\/m=6\/m=7\/m=8\/m=9\/m=10\/m=11\/m=12:=U
 rcases this with rfl|rfl|rfl|rfl|rfl|rfl|rfl|rfl|rfl|rfl|rfl|rfl<;>first|(cases IJ y<;>simp[e!,mL])|simp[e!,mL]
theorem Ll{m:Int}:28<=bn y m/\bn y m<=31:=by
 grind[bn]
theorem Tt{y:Int}:∀n,0<=sq y n/\sq y n<=31*n
 |0=>by simp[sq]
 |n+1=>by
  have:=Tt (y:=y) n;have:=Ll (y:=y) (m:=n+1)
  grind[sq]
theorem Hu:∀n,0<=Li n/\Li n<=366*n
 |0=>by simp[Li]
 |n+1=>by
  have:=Hu n
  grind[Li]
theorem kL:∀n:Nat,Li n=365*n+((1899+n:Int) / 4-(1899+n:Int) / 100+(1899+n:Int) / 400)-460
 |0=>by simp[Li]
 |n+1=>by
  simp only[Li,kL n,IJ]
  grind
theorem Ek{n:Nat}(h:n<=1000):Vh (1900+n)=M (Li n):=by
 unfold Vh Pn;simp only[b?];have e1:aa .i64 ((1900+(n:Int))-1)=1899+n:=by grind[m?]
 have e2:aa .i64 ((1900+(n:Int))-1900)=n:=by grind[m?]
 rw[e1,e2];rw[KK (a:=1899+(n:Int)) U,KK (a:=1899+(n:Int)) U,KK (a:=1899+(n:Int)) U]
 grind[kL,m?]
def kn(n m:Nat):Int:=Li n+sq (1900+n) m
theorem OI{n m:Nat}(hn:n<300) (hm:m<12):fj (1900+n) (m+1) 1=M (kn n m,0):=by
 unfold fj;have hy:=Hu n;have hd:=Ll (y:=1900+n) (m:=(m:Int)+1);rw[J,J,J,J,J,Rb U U U,b?,b?,s7 s5,Ek U,b?];have e:ja (jd (1900+n) (m+1)) (Li n,0)=M (.inl (kn n m)):=lf (step:=jd (1900+n) (m+1)) (λi=>(Li n+sq (1900+n) i,(i:Int))) m (kn n m) (λi hi=>by
  unfold jd;dsimp only;rw[m? (n:=(m:Int)+1-1) U U,J,Ha U,Rb U U U,b?];have:=Tt (y:=1900+n) i;have:=Ll (y:=1900+n) (m:=((i+1:Nat):Int))
  grind[sq,m?]) (by
  unfold jd;dsimp only;rw[m? (n:=(m:Int)+1-1) U U,s7];rfl) (by simp[sq])
 rw[e];have:=Tt (y:=1900+n) m
 grind[kn,m?]
def Rc(t:Int):js×Int:=if 0<=t/\t<=3599 then(⟨kn (t.toNat / 12) (t.toNat % 12),kn (t.toNat / 12) (t.toNat % 12)+bn (1900+(t.toNat / 12:Nat)) ((t.toNat % 12:Nat)+1)⟩,0)else(⟨0,0⟩,3)
theorem vB{t:Int}(h:(Rc t).2=0):0<=(Rc t).1.r/\(Rc t).1.r<(Rc t).1.To/\(Rc t).1.To<=1000000:=by
 unfold Rc at h⊢;split
 .rename_i hc;have:=Hu (t.toNat / 12);have:=Tt (y:=1900+((t.toNat / 12:Nat):Int)) (t.toNat % 12);have:=Ll (y:=1900+((t.toNat / 12:Nat):Int)) (m:=((t.toNat % 12:Nat):Int)+1)
  grind[kn]
 simp_all
theorem HB{t:Int}(h1:0<=t) (h2:t<=3599):aa .i64 (1900+aa .i64 (t.tdiv 12))=1900+((t.toNat / 12:Nat):Int)/\aa .i64 (t.tmod 12+1)=((t.toNat % 12:Nat):Int)+1:=by
 grind[m?]
theorem vx(t:Int):Mq t=M (D1 (0<=t/\t<=3599)):=by
 grind[Mq]
theorem ux(t:Int):Kq t=M (Rc t):=by
 unfold Kq Zl Rc;rw[vx,b?];by_cases h:0<=t/\t<=3599
 .obtain⟨e1,e2⟩:=HB h.1 h.2;have hn:t.toNat / 12<300:=U
  have hm:t.toNat % 12<12:=U
  have:=Hu (t.toNat / 12);have:=Tt (y:=1900+((t.toNat / 12:Nat):Int)) (t.toNat % 12);have:=Ll (y:=1900+((t.toNat / 12:Nat):Int)) (m:=((t.toNat % 12:Nat):Int)+1);rw[s7 s5,e1,e2,OI hn hm,b?];simp only[s7 (show¬(D1 (0<=t/\t<=3599)=a30) by grind),b?,Rb (y:=1900+((t.toNat / 12:Nat):Int)) (m:=((t.toNat % 12:Nat):Int)+1) U U U,J h];rw[s7 p6,m? (by grind[kn]) (by grind[kn])]
 simp_all
theorem PN:Li 300=109573:=by grind[kL]
theorem bI3(y:Int):bn y 1=31/\bn y 3=31/\bn y 4=30/\bn y 5=31/\bn y 6=30/\bn y 7=31/\bn y 8=31/\bn y 9=30/\bn y 10=31/\bn y 11=30/\bn y 12=31:=by
 simp[bn]
theorem ao7(y:Int):sq y 12=if IJ y=a29 then 366 else 365:=by
 obtain⟨h1,h3,h4,h5,h6,h7,h8,h9,h10,h11,h12⟩:=bI3 y;have e:sq y 12=0+bn y 1+bn y 2+bn y 3+bn y 4+bn y 5+bn y 6+bn y 7+bn y 8+bn y 9+bn y 10+bn y 11+bn y 12:=rfl
 grind[bn]
theorem lL(n:Nat):Li (n+1)=Li n+sq (1900+n) 12:=by
 rw[ao7];rfl
theorem gz:∀{i j:Nat},i<=j->Li i<=Li j:=by
 intro i j h
 induction h with
 |refl=>omega
 |step h ih=>
  grind[Li]
theorem nN:∀{i j:Nat},i<=j->sq y i<=sq y j:=by
 intro i j h
 induction h with
 |refl=>omega
 |step h ih=>
  rename_i j;have:=Ll (y:=y) (m:=j+1)
  grind[sq]
theorem WX{t:Int}(c:0<=t):∀N,t<Li N->∃n,n<N/\Li n<=t/\t<Li (n+1)
 |0,h=>by grind[Li]
 |N+1,h=>by
  by_cases d:t<Li N
  .obtain⟨n,a,b⟩:=WX c N d
   grind
  grind
theorem zR{y t:Int}(c:0<=t):∀N,t<sq y N->∃n,n<N/\sq y n<=t/\t<sq y (n+1)
 |0,h=>by grind[sq]
 |N+1,h=>by
  by_cases d:t<sq y N
  .obtain⟨n,a,b⟩:=zR c N d
   grind
  grind
structure Ymd (t:Int) (n m:Nat) (k:Int):Prop where
 hn:n<300
 hm:m<12
 hk:0<=k/\k<bn (1900+n) (m+1)
 ht:t=kn n m+k
variable {n m:Int}{k:Bool->Option α}
theorem DP{t:Int}(b:0<=t) (h1:t<=109572):∃n m k,Ymd t n m k:=by
 obtain⟨n,a1,a2,a3⟩:=WX b 300 (by grind[PN]);rw[lL]at a3;obtain⟨m,a,b2,b3⟩:=zR (y:=1900+n) (t:=t-Li n) U 12 U;refine⟨n,m,t-Li n-sq (1900+n) m,a1,a,⟨U,?_⟩,by grind[kn]⟩
 grind[sq]
theorem Ymd.year{t n m k}(h:Ymd t n m k):Li n<=t/\t<Li (n+1):=by
 obtain⟨h1,h2,h3,h4⟩:=h;have:=(Tt (y:=1900+n) m).1;have h5:=nN (y:=1900+n) (i:=m+1) (j:=12) U
 grind[sq,kn,lL]
theorem Ymd.range{t n m k}(h:Ymd t n m k):0<=t/\t<=109572:=by
 have h1:=h.year;have:=gz (i:=n+1) (j:=300) aaV;rw[PN]at this;have:=Hu n;omega
theorem Kl(t:Int):Jl t=M (D1 (0<=t/\t<=109572)):=by
 grind[Jl]
theorem bl9{σ ρ:Type}{step:σ->Option (Ex σ β ρ)}{x0:σ}(S:Nat->σ) (n:Nat) (v:ρ) (hgo:∀i,i<n->step (S i)=M (.go (S (i+1)))) (hend:step (S n)=M (.ret v)) (a:x0=S 0):ja step x0=M (.inr v):=by
 subst a;have:∀k j,j+k=n->ja step (S j)=M (.inr v):=by
  intro k
  induction k with
  |zero=>simp_all[ep]
  |succ k ih=>grind[Gc]
 simp_all
theorem iv{t n m k}(h:Ymd t n m k):Il t=M (1900+(n:Int),(m:Int)+1,k+1):=by
 have hr:=h.range;have hy:=h.year;unfold Il;rw[Kl,b?,s7 p5];have hq:t.tdiv 366=((t.toNat / 366:Nat):Int):=s5
 have hle:t.toNat / 366<=n:=by
  have:=(Hu (n+1)).2;omega
 have e1:ja (Mm t) (aa .i64 (1900+(aa .i64 (I' t 366))))=M (.inl (1900+(n:Int))):=by
  refine lf (step:=Mm t) (λi=>1900+((t.toNat / 366+i:Nat):Int)) (n-t.toNat / 366) _ (λi hi=>?_) ?_ ?_
  .unfold Mm;have hm:=gz (i:=t.toNat / 366+i+1) (j:=n) U;have e:aa .i64 (1900+((t.toNat / 366+i:Nat):Int)+1)=1900+((t.toNat / 366+i+1:Nat):Int):=by
    rw[m? U aaV];omega
   rw[e,Ek aaV,b?,J];rfl
  .unfold Mm;have e:aa .i64 (1900+((t.toNat / 366+(n-t.toNat / 366):Nat):Int)+1)=1900+((n+1:Nat):Int):=by
    rw[m? U aaV];omega
   rw[e,Ek aaV,b?,s7]
   simp_all
  grind[m?]
 rw[e1,b?];dsimp only;rw[Ek aaV,b?];have ht:=h.ht;unfold kn at ht;have hmm:=Tt (y:=1900+n) m;have hkk:=h.hk;have hdd:=Ll (y:=1900+n) (m:=m+1);have hyy:=Hu n;have hm12:=h.hm;have hn3:=h.hn;have e2:ja (Lm (1900+n)) (aa .i64 (t-Li n),0)=M (.inr (1900+(n:Int),(m:Int)+1,k+1)):=by
  refine bl9 (step:=Lm (1900+n)) (λi=>(sq (1900+n) m-sq (1900+n) i+k,(i:Int))) m _ (λi hi=>?_) ?_ ?_
  .unfold Lm;dsimp only;have a:=nN (y:=1900+n) (i:=i+1) (j:=m) U;have h3:=(Tt (y:=1900+n) i);have h4:=Ll (y:=1900+n) (m:=i+1);simp only[sq]at a;rw[J,Ha U,Rb U U U,b?];rw[show((i+1:Nat):Int)=(i:Int)+1 from rfl]at *;rw[s7,m? U U]
   grind[sq]
  .unfold Lm;dsimp only;rw[J,Ha U,Rb U U U,b?];rw[show((m+1:Nat):Int)=(m:Int)+1 from rfl]at *;rw[J,m? U U];simp
  grind[sq,m?]
 simp_all
theorem NI{n m:Nat}{d:Int}(hn:n<300) (hm:m<12) (hd1:1<=d) (hd2:d<=bn (1900+n) (m+1)):fj (1900+n) (m+1) d=M (kn n m+d-1,0):=by
 unfold fj;have hy:=Hu n;have hd:=Ll (y:=1900+n) (m:=(m:Int)+1);rw[J,J,J,J,J,Rb U U U,b?,b?,s7 p5,Ek U,b?];have e:ja (jd (1900+n) (m+1)) (Li n,0)=M (.inl (kn n m)):=lf (step:=jd (1900+n) (m+1)) (λi=>(Li n+sq (1900+n) i,(i:Int))) m (kn n m) (λi hi=>by
  unfold jd;dsimp only;rw[m? (n:=(m:Int)+1-1) U U,J,Ha U,Rb U U U,b?];have:=Tt (y:=1900+n) i;have:=Ll (y:=1900+n) (m:=((i+1:Nat):Int))
  grind[sq,m?]) (by
  unfold jd;dsimp only;rw[m? (n:=(m:Int)+1-1) U U,s7];rfl) (by simp[sq])
 rw[e];have:=Tt (y:=1900+n) m
 grind[kn,m?]
def X8(n m:Nat) (k j:Int):Int×Int:=
 if 12*(n:Int)+m+j<0\/3599<12*(n:Int)+m+j then(0,3)else
 (kn ((12*(n:Int)+m+j) / 12).toNat ((12*(n:Int)+m+j) % 12).toNat+min (k+1) (bn (1900+(12*(n:Int)+m+j) / 12) ((12*(n:Int)+m+j) % 12+1))-1,0)
theorem bQ2{b:Prop} [Decidable b] [Decidable c] {x:Option Bool}(hx:x=M a29):(e? (α:=Bool) (x.bind λa=>if a=a29 then if¬b then M (decide c)else M a29 else M a29) k)=k (D1 (b\/c)):=by
 grind
theorem Qx{t n m k}(h:Ymd t n m k) (hj:-3600<=j/\j<=3600):Hg t j=M (X8 n m k j):=by
 have hr:=h.range;have hkk:=h.hk;have hm12:=h.hm;have hn3:=h.hn;have hdd:=Ll (y:=1900+n) (m:=m+1);unfold Hg;rw[bQ2 (by grind[Kl]),s7 p5,iv h,b?];have e:aa .i64 ((aa .i64 ((aa .i64 ((aa .i64 ((aa .i64 (1900+(n:Int)-1900))*12))+((m:Int)+1)))-1))+j)=12*(n:Int)+m+j:=by
  grind[m?]
 dsimp only;rw[e];unfold X8;generalize 12*(n:Int)+m+j=K at *;by_cases a:K<0
 .simp_all
 .rw[J a,b?];by_cases h2:3599<K
  .simp_all
  .rw[s7 p5,s7];have e2:aa .i64 (1900+aa .i64 (I' K 12))=1900+((K / 12).toNat:Int):=by
    grind[m?]
   have e3:aa .i64 (S! K 12+1)=((K % 12).toNat:Int)+1:=by
    grind[m?]
   rw[e2,e3];have hd2:=Ll (y:=1900+((K / 12).toNat:Int)) (m:=((K % 12).toNat:Int)+1);rw[Rb U U U,b?,NI U U U U,b?]
   grind
theorem iX{t n m k}(h:Ymd t n m k) {i:Nat}:(n+i<300->∃c,Ymd (X8 n m k (12*i)).1 (n+i) m c/\(X8 n m k (12*i)).2=0/\(i=0->(X8 n m k (12*i)).1=t))/\(300<=n+i->X8 n m k (12*i)=(0,3)):=by
 have hkk:=h.hk;have a:=h.hm;have hn3:=h.hn;constructor
 .intro hi;have e1:(12*(n:Int)+m+12*i) / 12=((n+i:Nat):Int):=U
  have e2:(12*(n:Int)+m+12*i) % 12=(m:Int):=U
  unfold X8;rw[s7,e1,e2];have hd2:=Ll (y:=1900+((n+i:Nat):Int)) (m:=(m:Int)+1);simp only[oag];refine⟨min (k+1) (bn (1900+((n+i:Nat):Int)) ((m:Int)+1))-1,⟨hi,a,U,U⟩,trivial,λb=>?_⟩;subst b;have:=h.ht
  grind
 grind[X8]
theorem ad2(a b:Int):∃r,ij a b=M r/\0<=r/\r<=300:=by
 unfold ij;rw[Kl,Kl];by_cases d:¬(0<=a/\a<=109572)
 .grind
 have d:=Kah.1 d;by_cases e:¬(0<=b/\b<=109572)
 .grind
 have e:=Kah.1 e;rw[D2 d,D2 e];simp only[b?,B?,Bool.not_true,M',G1];obtain⟨c,k,h,ha⟩:=DP d.1 d.2;obtain⟨f,mb,kb,hb⟩:=DP e.1 e.2;have hya:=ha.year;have hyb:=hb.year;have hna:=ha.hn;have g:=hb.hn;by_cases hab:b<a
 .simp_all
 .rw[s7 p5,iv ha,b?,iv hb,b?];dsimp only;have hle:c<=f:=by
   rcases Nat.lt_or_ge f c with l|l
   .have:=gz (i:=f+1) (j:=c) U;omega
   omega
  obtain⟨Y,hY⟩:∃Y,f=c+Y:=⟨f-c,U⟩;subst hY;have e1:aa .i64 (1900+((c+Y:Nat):Int)-(1900+(c:Int)))=(Y:Int):=by grind[m?]
  rw[e1,m? (n:=12*(Y:Int)) U U,Qx ha U,b?];obtain⟨k',g1,g2,g3⟩:=(iX ha (i:=Y)).1 g;have below:∀i,i<Y->(X8 c k h (12*(i:Int))).2=0/\(X8 c k h (12*(i:Int))).1<=b:=by
   intro i hi;obtain⟨k2,q1,q2,-⟩:=(iX ha (i:=i)).1 U;have:=q1.year;have:=gz (i:=c+i+1) (j:=c+Y) U;omega
  rw[J g2,b?];by_cases hc:b<(X8 c k h (12*(Y:Int))).1
  .rw[J p5,b?];have hY0:Y≠0:=by
    omega
   obtain⟨Z,rfl⟩:∃Z,Y=Z+1:=⟨Y-1,U⟩
   grind[m?]
  grind
def wG(r:js) (d:Int):Bool:=vrB r&&(D1 (r.r<=d)&&D1 (d<r.To))
theorem kj(r:js) (d:Int):Ac r d=M (wG r d):=by
 grind[Ac,wG,ir]
def D5(def_ date:Int) (r:ke):Bool:=D1 (r.ac=def_)&&wG r.ai date
def vq(rules:List ke) (q:ke->Bool):Nat->List Int×List Int×List Int
 |0=>([],[],h! rules.length 0)
 |i+1=>
  match rules[i]? with
  |none=>vq rules q i
  |some r=>
   let p:=vq rules q i
   let a:=if 0<=r.an/\r.an<(i:Int)then(p.2.2[r.an.toNat]?).getD 0 else -1
   if q r=a29 then(p.1++[(i:Int)],p.2.1++[a],(p.2.2.set i a).set i (p.1.length:Int))else(p.1,p.2.1,p.2.2.set i a)
theorem EE{rules:List ke}{q:ke->Bool}:∀i,(vq rules q i).2.2.length=rules.length/\(vq rules q i).1.length<=i/\(vq rules q i).2.1.length=(vq rules q i).1.length
 |0=>by simp[vq]
 |i+1=>by
  obtain⟨h1,h2,h3⟩:=EE (rules:=rules) (q:=q) i
  grind[vq]
theorem pK{rules:List ke}{q:ke->Bool}:∀i,∀x∈(vq rules q i).1,0<=x/\x<(rules.length:Int)/\x<(i:Int)
 |0=>by simp[vq]
 |i+1=>by
  have h:=pK (rules:=rules) (q:=q) i;unfold vq
  grind
theorem Dz{rules:List ke}(hr:rules.length<=1048576) {f:ke->Option Bool}{q:ke->Bool}(hf:∀r,f r=M (q r)):Hf rules f=M ((vq rules q rules.length).1,(vq rules q rules.length).2.1):=by
 unfold Hf;rw[UF U U,b?];have hl:ja (rf rules f) (([]:List Int),([]:List Int),h! rules.length 0,0)=M (.inl ((vq rules q rules.length).1,(vq rules q rules.length).2.1)):=by
  refine lf (λi=>((vq rules q i).1,(vq rules q i).2.1,(vq rules q i).2.2,(i:Int))) rules.length _ (λi hi=>?_) (by grind[rf]) rfl;obtain⟨h1,h2,h3⟩:=EE (rules:=rules) (q:=q) i;unfold rf;simp only[vq,x! hi];rw[J,Ma hi,b?,Ha U,hf];generalize rules[i]=r;have hanc:(e? (α:=Int) (e? (α:=Bool) (if 0<=r.an then M (D1 (r.an<(i:Int)))else M a30) λd=>if d=a29 then(e! (vq rules q i).2.2 r.an).bind λb=>M b else M (-1)) λc=>M c)=M (if 0<=r.an/\r.an<(i:Int)then((vq rules q i).2.2[r.an.toNat]?).getD 0 else -1):=by
   by_cases g1:0<=r.an
   .by_cases g2:r.an<(i:Int)
    .rw[J g1,b?,J p5,J ⟨g1,g2⟩,mn g1 U,x! U];rfl
    grind
   grind
  have a:(e? (α:=Bool) (if 0<=r.an then M (D1 (r.an<(i:Int)))else M a30) λd=>if d=a29 then(e! (vq rules q i).2.2 r.an).bind λb=>M b else M (-1))=M (if 0<=r.an/\r.an<(i:Int)then((vq rules q i).2.2[r.an.toNat]?).getD 0 else -1):=by
   simp_all
  rw[a,b?];generalize (if 0<=r.an/\r.an<(i:Int)then((vq rules q i).2.2[r.an.toNat]?).getD 0 else -1)=anc;rw[Ma (i:=i) U,b?,cD U,b?,b?];cases q r
  .simp
  .rw[J rfl,Ma (i:=i) p5,b?,cD p5,b?,Lf s5,b?,Lf s5,b?];rfl
 simp_all
def RW(neg:Bool) (mode:Int) (q r d:Nat):Prop:=
 (mode=0/\neg=a29/\0<r)\/(mode=1/\neg=a30/\0<r)\/(mode=3/\0<r)\/(mode=4/\d<=r+r)\/(mode=5/\(d<r+r\/(d=r+r/\q % 2=1)))
instance (neg:Bool) (mode:Int) (q r d:Nat):Decidable (RW neg mode q r d):=by unfold RW;infer_instance
def Nu(neg:Bool) (mode:Int) (q r d:Nat):Nat:=if RW neg mode q r d then q+1 else q
theorem xB(neg:Bool) (mode:Int) (q r d:Nat):q<=Nu neg mode q r d/\Nu neg mode q r d<=q+1:=by
 grind[Nu]
def xH(neg:Bool) (n:Nat):Int:=if neg=a29 then -(n:Int)else n
theorem ai2(neg:Bool) (n:Nat):(xH neg n).natAbs=n:=by grind[xH]
theorem wuN(h1:0<=n) (h2:n<18446744073709551616):aa .u64 n=n:=by
 grind[aa]
theorem pae(q:Nat):((S! (q:Int) 2)==1)=D1 (q % 2=1):=by
 grind
theorem bE2{q:Nat}:(if¬((d:Int)-r)<r then if(r:Int)=d-r then M (D1 (q % 2=1))else M a30 else M a29)=M (D1 (d<r+r\/(d=r+r/\q % 2=1))):=by
 by_cases a:(d:Int)-r<r
 .grind
 .rw[J a];by_cases h2:(r:Int)=d-r
  .rw[J h2];congr 1;grind
  .rw[s7 h2];simp;omega
theorem OS{q:Nat}(neg:Bool) (mode:Int) (hq:q<9223372036854775808) (hr:r<d) (hd:d<9223372036854775808):ef q r d neg mode=M ((Nu neg mode q r d:Nat):Int):=by
 unfold ef Nu;rw[wuN (n:=(d:Int)-r) U U,wuN (n:=(q:Int)+1) U U,pae,bE2];by_cases a:r=0
 .subst a;rw[J (by rfl),s7 (by unfold RW;omega)]
 .rw[s7];unfold RW
  grind
theorem Dr(n:Int):fh n=M (D1 (0<=n/\n<=5)):=by
 grind[fh]
theorem bM4{k x:Int}(hx:x = -k):(e? (α:=Bool) (if¬k<n then M (D1 (n<x))else M a29) λj=>M j)=M (D1 (k<n\/n < -k)):=by
 subst hx;grind
theorem ti{k:Int}(h1:0<=k) (h2:k<9223372036854775808):vf n k=M (D1 (k<n\/n < -k)):=by
 unfold vf;exact bM4 (m? U U)
theorem Wg(h1:-9223372036854775808<=n) (h2:n<9223372036854775808):Ke n=M (n.natAbs:Int):=by
 grind[Ke,aa]
theorem AA{q:Nat}(b:Bool) (h:q<9223372036854775808):gp q b=M (xH b q):=by
 grind[gp,xH,m?]
theorem bP6{a b:Nat}(h:0<b) (ha:a<9223372036854775808):quo .u64 (a:Int) (b:Int)=M ((a / b:Nat):Int):=by
 unfold quo;have:=mai a b;rw[s7,Qag U,←Int.natCast_ediv]
 grind[wuN]
theorem bP5{a b:Nat}{k:IntKind}(h:0<b):rem k (a:Int) (b:Int)=M ((a % b:Nat):Int):=by
 grind[rem]
def CX(n d mode:Int):Int×Int:=
 if¬(0<=mode/\mode<=5)then(0,1)else
 if d=0 then(0,12)else
 if(4611686018427387904<n\/n < -4611686018427387904)\/(4611686018427387904<d\/d < -4611686018427387904)then(0,3)else
 (xH (!(D1 (n<0)==D1 (d<0))) (Nu (!(D1 (n<0)==D1 (d<0))) mode (n.natAbs / d.natAbs) (n.natAbs % d.natAbs) d.natAbs),0)
theorem or2{a b:Prop} [Decidable a] [Decidable b] (h:o=M (decide b)) :(e? (α:=Bool) ((M (decide a)).bind λx=>if x=a30 then o.bind λy=>M y else M a29) k)=k (D1 (a\/b)):=by
 grind
theorem Uk(n d mode:Int):uf n d mode=M (CX n d mode):=by
 unfold uf CX;rw[Dr,b?];by_cases hm:0<=mode/\mode<=5
 .rw[s7 p5,s7 (E!.2 hm)];by_cases a:d=0
  .simp_all
  .rw[s7 a,s7 a,ti U U,or2 (ti U U)];by_cases hb:(4611686018427387904<n\/n < -4611686018427387904)\/(4611686018427387904<d\/d < -4611686018427387904)
   .simp_all
   .rw[s7 p5,s7 hb,Wg U U,b?,Wg U U,b?];have hl:=mai n.natAbs d.natAbs;have hr:=(xB (!(D1 (n<0)==D1 (d<0))) mode (n.natAbs / d.natAbs) (n.natAbs % d.natAbs) d.natAbs).2;rw[bP6 U U,b?,bP5 U,b?,OS _ _ U (Oah _ U) U,b?,AA _ U];rfl
 simp_all
def mdS(c num den mode:Int):Int×Int:=
 if¬(0<=mode/\mode<=5)then(0,1)else
 if den=0 then(0,12)else
 if(1000000000000000<c\/c < -1000000000000000)\/(1000000000<num\/num < -1000000000)\/(1000000000<den\/den < -1000000000)then(0,3)else
 if Nu (!((!((D1 (c<0))==(D1 (num<0))))==(D1 (den<0)))) mode (c.natAbs*num.natAbs / den.natAbs) (c.natAbs*num.natAbs % den.natAbs) den.natAbs<=1000000000000000 then
  (xH (!((!((D1 (c<0))==(D1 (num<0))))==(D1 (den<0)))) (Nu (!((!((D1 (c<0))==(D1 (num<0))))==(D1 (den<0)))) mode (c.natAbs*num.natAbs / den.natAbs) (c.natAbs*num.natAbs % den.natAbs) den.natAbs),0)
 else(0,3)
theorem or3{a b:Prop} [Decidable a] [Decidable b] [Decidable c] {p:Option Bool}(h:o=M (decide b)) (h2:p=M (decide c)) :(e? (α:=Bool) ((M (decide a)).bind λx=>if x=a30 then o.bind λy=>if y=a30 then p.bind λz=>M z else M a29 else M a29) k)=k (D1 (a\/b\/c)):=by
 grind
theorem UY{x y:Nat}(hx:x<18446744073709551616) (hy:y<18446744073709551616):Je x y=M (((x*y / 18446744073709551616:Nat):Int),((x*y % 18446744073709551616:Nat):Int)):=by
 grind[Je]
theorem laa{p:Nat}(hp:p / 18446744073709551616<z) (hz:z<18446744073709551616):Rf ((p / 18446744073709551616:Nat):Int) ((p % 18446744073709551616:Nat):Int) z=M (((p / z:Nat):Int),((p % z:Nat):Int)):=by
 grind[Rf]
theorem xM{p:Nat}(a:0<z) (h:z<=p / 18446744073709551616):18446744073709551616<=p / z:=by
 rw[Nat.le_div_iff_mul_le a];omega
theorem zA(c num den mode:Int):Cr c num den mode=M (mdS c num den mode):=by
 unfold Cr mdS;rw[Dr,b?];by_cases hm:0<=mode/\mode<=5
 .rw[s7 p5,s7 (E!.2 hm)];by_cases e:den=0
  .simp_all
  .rw[s7 e,s7 e,ti U U,or3 (ti U U) (ti U U)];by_cases hb:(1000000000000000<c\/c < -1000000000000000)\/(1000000000<num\/num < -1000000000)\/(1000000000<den\/den < -1000000000)
   .simp_all
   .rw[s7 p5,s7 hb,Wg U U,b?,Wg U U,b?];generalize (!((!((D1 (c<0))==(D1 (num<0))))==(D1 (den<0))))=ng;obtain⟨x,hx⟩:∃x,c.natAbs=x:=⟨_,rfl⟩;obtain⟨y,j⟩:∃x,num.natAbs=x:=⟨_,rfl⟩;obtain⟨z,f⟩:∃x,den.natAbs=x:=⟨_,rfl⟩;have a:=Wg (n:=den) U U;rw[f]at a;rw[hx,j,f,a];have g:x<=1000000000000000:=U
    have bY:y<=1000000000:=U
    have d:z<=1000000000/\0<z:=U
    have b:x*y<=1000000000000000000000000:=Lag (sah g bY) s6;rw[UY U U];simp only[b?];generalize x*y=p at b⊢;by_cases hh:z<=p / 18446744073709551616
    .rw[J,if_neg];have h:=(xB ng mode (p / z) (p % z) z).1;have h2:=xM d.2 hh;omega
    .rw[s7,laa U U];simp only[b?];have h:=xB ng mode (p / z) (p % z) z;by_cases hq:p / z<=1000000000000000
     .rw[s7,OS _ _ U (Oah _ d.2) U,b?];by_cases i:Nu ng mode (p / z) (p % z) z<=1000000000000000
      .rw[s7,J i,AA _ U];rfl
      grind
     grind
 simp_all
theorem uy(n:Int):Wk n=M (D1 (0<=n/\n<=5)):=by
 grind[Wk]
theorem Pp{k:Int}(h1:0<=k) (h2:k<9223372036854775808):Bj n k=M (D1 (k<n\/n < -k)):=by
 unfold Bj;exact bM4 (m? U U)
theorem jP(c r mode:Int):uq c r mode=M (mdS c r 1000000 mode):=by
 grind[uq,zA]
def p8(mode q r d:Int):Prop:=
 r≠0/\(mode=1\/(mode=2/\q<0)\/(mode=3/\0<=q)\/(mode=4/\(d-r<r\/(r=d-r/\0<=q)))\/(mode=5/\(d-r<r\/(r=d-r/\q % 2≠0))))
instance (mode q r d:Int):Decidable (p8 mode q r d):=by unfold p8;infer_instance
def TL(mode q r d:Int):Int:=if p8 mode q r d then q+1 else q
theorem jD(N:Int) (d:Nat) (mode:Int) (hd:0<d) (neg:Bool) (g:N=0\/neg=D1 (N<0)) (hm:0<=mode/\mode<=5) :
 xH neg (Nu neg mode (N.natAbs / d) (N.natAbs % d) d)=TL mode (N / d) (N % d) d:=by
 have m:=Nat.div_add_mod N.natAbs d;have n:=Oah N.natAbs hd;obtain⟨a,ha⟩:∃a,N.natAbs / d=a:=⟨_,rfl⟩;obtain⟨b,hb⟩:∃a,N.natAbs % d=a:=⟨_,rfl⟩;rw[ha,hb]at m;rw[hb]at n;rw[ha,hb];by_cases hN:0<=N
 .have e1:N=(N.natAbs:Int):=U
  have q1:N / (d:Int)=(a:Int):=s5
  have i:N % (d:Int)=(b:Int):=s5
  rw[q1,i];have hn:b=0\/neg=a30:=by
   grind
  have key:RW neg mode a b d↔p8 mode a b d:=by
   unfold RW p8
   grind
  have p:∀k:Nat,(b=0->k=a)->xH neg k=(k:Int):=λk hk=>by
   unfold xH;rcases hn with h|h
   .have h0:a=0\/neg=a30:=by
     rcases g with o|o
     .left;subst o;simp at ha;omega
     grind
    grind
   grind
  unfold Nu TL;by_cases c:RW neg mode a b d
  .rw[J c,J (key.1 c)];rw[p _ (λl=>absurd c (by rw[l];unfold RW;omega))];omega
  grind
 .have e1:N = -(N.natAbs:Int):=U
  have hn:neg=a29:=by
   grind
  subst hn;have f:N = -((d:Int)*a+b):=U
  unfold xH;simp only[B?];by_cases j:b=0
  .have q1:N / (d:Int) = -(a:Int):=by
    rw[f,j];simp only[Int.natCast_zero,Int.add_zero];rw[←Int.mul_neg,Int.mul_ediv_cancel_left _ U]
   have i:N % (d:Int)=0:=by
    rw[f,j];simp
   rw[q1,i];unfold Nu TL;rw[s7 (by rw[j];unfold RW;omega),s7 (by simp[p8])]
  .have e:N=((d:Int)-b)+d*(-(a:Int)-1):=s5
   have q1:N / (d:Int) = -(a:Int)-1:=by
    rw[e,Int.add_mul_ediv_left _ _ U,Int.ediv_eq_zero_of_lt U U];omega
   have i:N % (d:Int)=(d:Int)-b:=by
    rw[e,Int.add_mul_emod_self_left,Int.emod_eq_of_lt U U]
   rw[q1,i];have key:RW a29 mode a b d↔¬p8 mode (-(a:Int)-1) ((d:Int)-b) d:=by
    unfold RW p8 at *
    grind
   grind[Nu,TL]
def ao5(a b mode:Int):Int×Int:=
 if¬(0<=mode/\mode<=5)then(0,1)else
 if(1000000000<a\/a < -1000000000)\/(1000000000<b\/b < -1000000000)then(0,3)else
 if 1000000000<TL mode (a*b / 1000000) (a*b % 1000000) 1000000\/TL mode (a*b / 1000000) (a*b % 1000000) 1000000 < -1000000000 then(0,3)else
 (TL mode (a*b / 1000000) (a*b % 1000000) 1000000,0)
theorem r5{a b:Int}(h1:¬(1000000000<a\/a < -1000000000)) (h2:¬(1000000000<b\/b < -1000000000)):-1000000000000000000<=a*b/\a*b<=1000000000000000000:=by
 have:=sah (show a.natAbs<=1000000000 by omega) (show b.natAbs<=1000000000 by omega);rw[←iaj]at this;omega
theorem bW(a b mode:Int):EA a b mode=M (ao5 a b mode):=by
 unfold EA ao5;rw[uy,b?];by_cases hm:0<=mode/\mode<=5
 .rw[s7 p5,s7 (E!.2 hm),Pp U U,or2 (Pp U U)];by_cases hb:(1000000000<a\/a < -1000000000)\/(1000000000<b\/b < -1000000000)
  .simp_all
  .rw[s7 p5,s7 hb,Uk];have c:=r5 (λh=>hb (.inl h)) (λh=>hb (.inr h));generalize a*b=p at c⊢;rw[m? U U];have d:xH (!(D1 (p<0)==D1 ((1000000:Int)<0))) (Nu (!(D1 (p<0)==D1 ((1000000:Int)<0))) mode (p.natAbs / 1000000) (p.natAbs % 1000000) 1000000)=TL mode (p / 1000000) (p % 1000000) 1000000:=jD p 1000000 mode s6 (!(D1 (p<0)==D1 ((1000000:Int)<0))) (.inr p6) hm;unfold CX;rw[s7 (E!.2 hm),s7 s6,s7];simp only[b?];rw[show(1000000:Int).natAbs=1000000 from rfl,d,s7 p6,Pp U U,b?]
   grind
 simp_all
theorem bl1:(e? (α:=Bool) (if¬n<0 then M (D1 (5<n))else M a29) k)=k (D1 (¬(0<=n/\n<=5))):=by
 grind
theorem dW(mode q r d:Int):q<=TL mode q r d/\TL mode q r d<=q+1:=by grind[TL]
def frS(num den mode:Int):Int×Int:=
 if¬(0<=mode/\mode<=5)then(0,1)else
 if den=0 then(0,12)else
 if(1000000000000000<num\/num < -1000000000000000)\/(1000000000000000<den\/den < -1000000000000000)then(0,3)else
 if Nu (!(D1 (num<0)==D1 (den<0))) mode (num.natAbs*1000000 / den.natAbs) (num.natAbs*1000000 % den.natAbs) den.natAbs<=1000000000 then
  (xH (!(D1 (num<0)==D1 (den<0))) (Nu (!(D1 (num<0)==D1 (den<0))) mode (num.natAbs*1000000 / den.natAbs) (num.natAbs*1000000 % den.natAbs) den.natAbs),0)
 else(0,3)
theorem rW{q:Nat}(neg:Bool) (mode:Int) (hr:r<d) (hd:d<9223372036854775808):Qp q r d neg mode=M (D1 (RW neg mode q r d)):=by
 unfold Qp;rw[wuN (n:=(d:Int)-r) U U,pae,bE2];by_cases a:r=0
 .subst a;rw[J (by rfl)];congr 1;symm;rw[decide_eq_false_iff_not];unfold RW;omega
 .rw[s7];unfold RW;have hp:0<r:=U
  by_cases e0:mode=0
  .simp_all
  by_cases e1:mode=1
  .simp_all
  by_cases e3:mode=3
  .simp_all
  by_cases e4:mode=4
  .subst e4;simp;omega
  grind
theorem SH(h1:-9223372036854775808<n) (h2:n<9223372036854775808):aa .u64 (max n (aa .i64 (-n)))=((n.natAbs:Nat):Int):=by
 grind[m?,wuN]
theorem dG(num den mode:Int):ko num den mode=M (frS num den mode):=by
 unfold ko frS;rw[uy,b?];by_cases hm:0<=mode/\mode<=5
 .rw[s7 p5,s7 (E!.2 hm)];by_cases e:den=0
  .simp_all
  .rw[s7 e,s7 e,Pp U U,or2 (Pp U U)];by_cases hb:(1000000000000000<num\/num < -1000000000000000)\/(1000000000000000<den\/den < -1000000000000000)
   .simp_all
   .rw[s7 p5,s7 hb,SH U U,SH U U];have a:(¬(D1 (num<0))=(D1 (den<0)))↔(!(D1 (num<0)==D1 (den<0)))=a29:=by
     simp
    generalize (!(D1 (num<0)==D1 (den<0)))=ng at a⊢;obtain⟨x,hx⟩:∃x,num.natAbs=x:=⟨_,rfl⟩;obtain⟨z,g⟩:∃x,den.natAbs=x:=⟨_,rfl⟩;rw[hx,g];have bx:x<=1000000000000000:=U
    have d:z<=1000000000000000/\0<z:=U
    rw[show(1000000:Int)=((1000000:Nat):Int)from rfl,UY U U];simp only[b?];have b:x*1000000<=1000000000000000000000:=U
    generalize x*1000000=p at b⊢;by_cases hh:z<=p / 18446744073709551616
    .rw[J,if_neg];have f:=(xB ng mode (p / z) (p % z) z).1;have h2:=xM d.2 hh;omega
    .rw[s7,laa U U];simp only[b?];have f:=xB ng mode (p / z) (p % z) z;by_cases hq:p / z<=1000000000
     .rw[s7,rW _ _ (Oah _ d.2) U,m? (n:=((p / z:Nat):Int)) U U,m? (n:=((p / z:Nat):Int)+1) U U];simp only[b?,R2];have hfin:∀R:Nat,R<=1000000001->(if(1000000000:Int)<(R:Int)then M ((0:Int),(3:Int))else e? (α:=Int) (if¬(D1 (num<0))=(D1 (den<0))then M (aa .i64 (-(R:Int)))else M (R:Int)) λc=>M (c,0))=M (if R<=1000000000 then(xH ng R,0)else(0,3)):=by
       intro R hR;by_cases hr:R<=1000000000
       .rw[s7,J hr];unfold xH;by_cases hn:ng=a29
        .rw[J (a.2 hn),J hn,b?,m? U U]
        simp_all
       grind
      grind[Nu]
     grind
 simp_all
def rtS(c unit mode:Int):Int×Int:=
 if¬(0<=mode/\mode<=5)then(0,1)else
 if unit<1 then(0,12)else
 if(1000000000000000<c\/c < -1000000000000000)\/1000000000000000<unit then(0,3)else
 if 1000000000000000<xH (D1 (c<0)) (Nu (D1 (c<0)) mode (c.natAbs / unit.natAbs) (c.natAbs % unit.natAbs) unit.natAbs)*unit\/xH (D1 (c<0)) (Nu (D1 (c<0)) mode (c.natAbs / unit.natAbs) (c.natAbs % unit.natAbs) unit.natAbs)*unit < -1000000000000000 then(0,3)else
 (xH (D1 (c<0)) (Nu (D1 (c<0)) mode (c.natAbs / unit.natAbs) (c.natAbs % unit.natAbs) unit.natAbs)*unit,0)
theorem Zac{c unit:Int}{ng:Bool}(hc:¬(1000000000000000<c\/c < -1000000000000000)) (hu:1<=unit/\unit<=1000000000000000):-2000000000000000<=xH ng (Nu ng mode (c.natAbs / unit.natAbs) (c.natAbs % unit.natAbs) unit.natAbs)*unit/\xH ng (Nu ng mode (c.natAbs / unit.natAbs) (c.natAbs % unit.natAbs) unit.natAbs)*unit<=2000000000000000:=by
 have a:=(xB ng mode (c.natAbs / unit.natAbs) (c.natAbs % unit.natAbs) unit.natAbs).2;have h2:(xH ng (Nu ng mode (c.natAbs / unit.natAbs) (c.natAbs % unit.natAbs) unit.natAbs)*unit).natAbs<=2000000000000000:=by
  rw[iaj,ai2];have h3:=Nat.mul_le_mul_right unit.natAbs a;have h4:=Nat.div_mul_le_self c.natAbs unit.natAbs
  grind
 omega
theorem bQ3{a b:Prop} [Decidable a] [Decidable b] :(e? (α:=Bool) ((M (decide a)).bind λx=>if x=a30 then M (decide b)else M a29) k)=k (D1 (a\/b)):=by
 grind
theorem qH(c unit mode:Int):Lp c unit mode=M (rtS c unit mode):=by
 unfold Lp rtS;rw[Dr,b?];by_cases hm:0<=mode/\mode<=5
 .rw[s7 p5,s7 (E!.2 hm)];by_cases d:unit<1
  .simp_all
  .rw[s7 d,s7 d,ti U U,bQ3];by_cases hb:(1000000000000000<c\/c < -1000000000000000)\/1000000000000000<unit
   .simp_all
   .rw[s7 p5,s7 hb,Uk];have a:=Zac (c:=c) (unit:=unit) (mode:=mode) (ng:=D1 (c<0)) (λh=>hb (.inl h)) U;unfold CX;rw[s7 (E!.2 hm),s7,s7];have hu:D1 (unit<0)=a30:=s5
    simp only[b?,hu];have b:(!(D1 (c<0)==a30))=D1 (c<0):=p6
    rw[b];generalize xH (D1 (c<0)) (Nu (D1 (c<0)) mode (c.natAbs / unit.natAbs) (c.natAbs % unit.natAbs) unit.natAbs)*unit=q at a⊢;rw[s7 p6,m? U U,ti U U,b?]
    grind
 simp_all
theorem JY{σ β ρ:Type}{step:σ->Option (Ex σ β ρ)}(I:σ->Prop) (a:σ->Nat) (Q:β->Prop) (h:∀s,I s->(∃s',step s=M (.go s')/\I s'/\a s'<a s)\/∃b,step s=M (.brk b)/\Q b) :
 ∀(n:Nat) (s:σ),a s<=n->I s->∃b,ja step s=M (.inl b)/\Q b
 |0,s,hn,hi=>by
  grind[Gb]
 |n+1,s,hn,hi=>by
  rcases h s hi with⟨s',c,h2,h3⟩|⟨b,c,h2⟩
  .obtain⟨b,h4,h5⟩:=JY I a Q h n s' U h2
   grind[Gc]
  grind[Gb]
theorem wu(h1:0<=n) (h2:n<9223372036854775808):aa .u64 n=n:=by
 grind[aa]
theorem mid{i j:Nat}(h:i+j<4611686018427387904):aa .i64 (Int.fdiv (aa .u64 (aa .i64 ((i:Int)+(j:Int)))) 2)=(((i+j) / 2:Nat):Int):=by
 grind[m?,wu]
theorem FI(x y:Int):F? x y=M (D1 (x<y)):=by
 grind[F?,C?]
theorem zad{t:Int}(hq:q.Pairwise (·<·)) (hl:q.length<=1048576):∃(k:Nat) (b:Bool),ab q t=M ((k:Int),b)/\k<=q.length/\(∀i (hi:i<q.length),i<k->q[i]<t)/\∀i (hi:i<q.length),k<=i->t<=q[i]:=by
 have f:=Fag.1 hq;unfold ab;obtain⟨b,g,k,rfl,h2,a,c⟩:=JY (step:=Hb q t) (λs=>∃i j:Nat,s=((i:Int),(j:Int))/\i<=j/\j<=q.length/\(∀p (f:p<q.length),p<i->q[p]<t)/\∀p (f:p<q.length),j<=p->t<=q[p]) (λs=>(s.2-s.1).toNat) (λb=>∃k:Nat,b=(k:Int)/\k<=q.length/\(∀i (hi:i<q.length),i<k->q[i]<t)/\∀i (hi:i<q.length),k<=i->t<=q[i]) (by
  rintro s ⟨i,j,rfl,a1,a2,a3,a4⟩;unfold Hb;dsimp only;by_cases hij:i<j
  .left;rw[J,mid U,Ma (show(i+j) / 2<q.length by omega),b?,FI,b?];by_cases hx:q[(i+j) / 2]' U<t
   .refine⟨_,by rw[J p5,Ha U],⟨(i+j) / 2+1,j,rfl,U,a2,λp d e=>?_,a4⟩,U⟩
    grind
   .refine⟨_,s5,⟨i,(i+j) / 2,rfl,U,U,a3,λp d e=>?_⟩,U⟩
    grind
  grind) q.length (0,(q.length:Int)) p6 ⟨0,q.length,rfl,U,U,U,U⟩
 rw[g,b?];dsimp only;unfold Uh;by_cases hk:k<q.length
 .rw[J,Ma hk,b?];by_cases he:q[k]=t
  .exact⟨k,a29,s5,h2,a,c⟩
  .exact⟨k,a30,s5,h2,a,c⟩
 .exact⟨k,a30,s5,h2,a,c⟩
def CA(to:Int):Int->List Int->List js
 |a,[]=>[⟨a,to⟩]
 |a,x::l=>⟨a,x⟩::CA to x l
theorem zN{to:Int}:∀{a:Int}{l:List Int},(CA to a l).length=l.length+1
 |_,[]=>rfl
 |_,x::l=>by simp[CA,zN (a:=x) (l:=l)]
def V'(r:js) (x:Int):Bool:=D1 (r.r<x)&&D1 (x<r.To)
theorem yI{r:js}(hq:q.Pairwise (·<·)) (hl:q.length<=65536) (hr:0<=r.r/\r.r<r.To/\r.To<=1000000):Ro r q=M (CA r.To r.r (q.filter (V' r))):=by
 unfold Ro;rw[m? U U];obtain⟨k,b,e,h2,h3,h4⟩:=zad (t:=r.r+1) hq U;rw[e,b?];dsimp only;have hp:=Fag.1 hq;have hf:q.filter (V' r)=(q.drop k).filter λx=>D1 (x<r.To):=by
  conv=>lhs;rw[←List.take_append_drop k q]
  rw[Jag];have e1:(q.take k).filter (V' r)=[]:=by
   rw[Vah];intro x hx;obtain⟨i,hi,rfl⟩:=O' hx
   grind[V']
  rw[e1,G?];refine List.filter_congr λx hx=>?_;obtain⟨i,hi,rfl⟩:=O' hx
  grind[V']
 rw[hf];obtain⟨⟨s2,h⟩,g1,g2,g3⟩:=JY (step:=Yp r q) (λs=>∃j:Nat,s.2.2=(j:Int)/\j<=q.length/\s.2.1.length<=j/\CA r.To r.r ((q.drop k).filter λx=>D1 (x<r.To))=s.2.1++CA r.To s.1 ((q.drop j).filter λx=>D1 (x<r.To))) (λs=>((q.length:Int)-s.2.2).toNat) (λb=>b.2.length<=q.length/\CA r.To r.r ((q.drop k).filter λx=>D1 (x<r.To))=b.2++[⟨b.1,r.To⟩]) (by
  rintro⟨s2,h,s4⟩ ⟨j,d,f,g,c⟩;dsimp only at d f g c;subst d;unfold Yp;dsimp only;by_cases hj:j<q.length
  .rw[J,Ma hj,b?,b?];have hd:q.drop j=q[j]::q.drop (j+1):=Eaf hj;by_cases hx:q[j]<r.To
   .left;refine⟨_,by rw[J s5,b?,Lf s5,b?,Ha U],⟨j+1,rfl,U,s5,?_⟩,s5⟩
    grind[CA]
   .right;refine⟨_,by rw[s7 s5],s5,?_⟩;dsimp only;have:(q.drop j).filter (λx=>D1 (x<r.To))=[]:=by
     rw[Vah];intro x a;obtain⟨i,hi,rfl⟩:=O' a
     grind
    rw[c,this];rfl
  .right;refine⟨_,by rw[s7];rfl,s5,?_⟩;dsimp only;rw[c,List.drop_eq_nil_of_le U];rfl) q.length (r.r,[],(k:Int)) p6 ⟨k,rfl,h2,p6,p6⟩
 grind[Lf]
theorem Y9{a b:List Int}(ha:a.length<=1048576) (hb:b.length<=1048576):Cg [a,b]=M (a++b):=by
 unfold Cg;have e1:ja (Eg [a,b]) (0,0)=M (.inl ((a.length:Int)+b.length)):=by
  rw[Gc (s':=((a.length:Int),1)),Gc (s':=((a.length:Int)+b.length,2)),Gb (b:=(a.length:Int)+b.length)]
  all_goals grind[Eg,e!,m?]
 rw[e1,b?];dsimp only;have e2:Bg ((a.length:Int)+b.length)=M []:=by
  unfold Bg;rw[s7];have w0:aa .i64 (0-0)=0:=m? U U;rw[w0,Int.sub_zero,m? U U]
  grind[mka,Rr]
 rw[e2,b?];have e3:ja (Dg [a,b]) ([],0)=M (.inl (a++b)):=by
  rw[Gc (s':=(a,1)),Gc (s':=(a++b,2)),Gb (b:=a++b)]
  all_goals grind[Dg,e!,Lf,m?]
 simp_all
def bN3(l:ej):Prop:=∀t∈l.Tables,t.Rows.length<=1125899906842624
theorem Jab{σ1 σ2 β1 β2 ρ1 ρ2:Type}{s1:σ1->Option (Ex σ1 β1 ρ1)}{s2:σ2->Option (Ex σ2 β2 ρ2)}(I:σ1->σ2->Prop) (a:σ1->Nat) (QB:β1->β2->Prop) (QR:ρ1->ρ2->Prop)
 (h:∀x y,I x y->(∃d e,s1 x=M (.go d)/\s2 y=M (.go e)/\I d e/\a d<a x)\/(∃b c,s1 x=M (.brk b)/\s2 y=M (.brk c)/\QB b c)\/∃b c,s1 x=M (.ret b)/\s2 y=M (.ret c)/\QR b c) :
 ∀(n:Nat) x y,a x<=n->I x y->(∃b c,ja s1 x=M (.inl b)/\ja s2 y=M (.inl c)/\QB b c)\/∃b c,ja s1 x=M (.inr b)/\ja s2 y=M (.inr c)/\QR b c:=by
 intro n
 induction n with
 |zero=>
  grind[Gb,ep]
 |succ n ih=>
  grind[Gc,Gb,ep]
def Oab(date key:Int) (r:b0):Bool:=wG r.ai date&&(D1 (r.Lo<=key)&&D1 (key<r.Hi))
theorem ZE(r:b0) (date key:Int):Sf r date key=M (Oab date key r):=by
 grind[Sf,Oab,kj]
def MG(t:po) (date key:Int):Int×Bool:=
 match ff (λi=>if(t.Rows[i]?.any (Oab date key))=a29 then M ((i:Int),a29)else u4) t.Rows.length with
 |some v=>v
 |none=>(0,a30)
theorem HK{t:po}(hl:t.Rows.length<=1048576) (date key:Int):Sr t date key=M (MG t date key):=by
 have a:ja (Ob t.Rows (λy=>Sf y date key)) 0=M (Aj () (ff (λi=>if(t.Rows[i]?.any (Oab date key))=a29 then M ((i:Int),a29)else u4) t.Rows.length)):=
  Ji (λi=>(i:Int)) _ t.Rows.length () (λi hi _=>by
   unfold Ob;rw[J,Ma hi,x! hi]
   grind[qL,ZE,Ha]) (λ_=>by grind[Ob])
 unfold Sr jc MG;rw[a,b?];cases h:ff (λi=>if(t.Rows[i]?.any (Oab date key))=a29 then M ((i:Int),a29)else u4) t.Rows.length<;>rfl
theorem Gab{t:po}{date key:Int}(h:(MG t date key).2=a29):∃i:Nat,(MG t date key).1=(i:Int)/\i<t.Rows.length:=by
 unfold MG at h⊢;split
 .rename_i v hv;obtain⟨i,h1,h2,-⟩:=Vb.1 hv
  grind
 simp_all
def DQ(len n:Nat):Option (Nat×Nat):=if 1000000000000000<len*n / 1000000 then u4 else M (len*n / 1000000,len*n % 1000000)
def NU(neg:Bool):Option (Nat×Nat)->Int×Int×Bool
 |none=>(0,0,a30)
 |some (q,r)=>(xH neg q,xH neg r,a29)
theorem SA(a:len<=1000000000000000) (h2:-1000000000<=n/\n<=1000000000):zi len n=M (NU (D1 (n<0)) (DQ len n.natAbs)):=by
 unfold zi;have e:(if n<0 then M (aa .u64 (-(aa .u64 n)))else M (aa .u64 n))=M (n.natAbs:Int):=by
  have:=Wg (n:=n) U U;exact this
 rw[e,b?,wuN (n:=(len:Int)) U U,UY U U,b?];have b:len*n.natAbs<=1000000000000000*1000000000:=sah a U;unfold DQ;generalize len*n.natAbs=p at b⊢;dsimp only;rw[s7,show(1000000:Int)=((1000000:Nat):Int)from rfl,laa U U,b?];dsimp only;by_cases hq:1000000000000000<p / 1000000
 .rw[J,J hq];rfl
 .rw[s7,s7 hq,m? (n:=((p / 1000000:Nat):Int)) U U,m? (n:=((p % 1000000:Nat):Int)) U U];by_cases hn:n<0
  .rw[J hn,m? U U,m? U U,D2 hn];rfl
  .rw[s7 hn,R1 hn];rfl
theorem OU{neg:Bool}{n:Nat}:-1000000000000000<=(NU neg (DQ len n)).1/\(NU neg (DQ len n)).1<=1000000000000000/\-1000000<=(NU neg (DQ len n)).2.1/\(NU neg (DQ len n)).2.1<=1000000:=by
 grind[DQ,NU,xH]
def rsS(w m mode:Int):Int:=TL mode ((w*1000000+m) / 1000000) ((w*1000000+m) % 1000000) 1000000
theorem Qac{q r e:Int}(he:e % 2=0) (h:(0<=q+e)↔(0<=q)):TL mode (q+e) r 1000000=TL mode q r 1000000+e:=by
 have:p8 mode (q+e) r 1000000↔p8 mode q r 1000000:=by unfold p8;omega
 grind[TL]
theorem jG{w:Int}(hm:0<=mode/\mode<=5) (hw:-2000000000000000000<=w/\w<=2000000000000000000) (hr:-1000000000000<=m/\m<=1000000000000) :
 Fo w m mode=M (if 1000000000000000<rsS w m mode\/rsS w m mode < -1000000000000000 then(0,3)else(rsS w m mode,0)):=by
 have a:=Int.mul_tdiv_add_tmod m 1000000;have hm1:=Int.tmod_lt_of_pos m (show(0:Int)<1000000 by omega);have hm2:-1000000<S! m 1000000:=by
  grind
 unfold Fo;rw[m? (n:=I' m 1000000) U U,m? (n:=w+I' m 1000000) U U];have f:w*1000000+m=(w+I' m 1000000)*1000000+S! m 1000000:=U
 unfold rsS;rw[f];have hW:-3000000000000000000<=w+I' m 1000000/\w+I' m 1000000<=3000000000000000000:=U
 generalize w+I' m 1000000=W at *;generalize S! m 1000000=n6 at *;clear a f;have b:=dW mode ((W*1000000+n6) / 1000000) ((W*1000000+n6) % 1000000) 1000000;by_cases hb:W < -2000000000000000\/2000000000000000<W
 .grind
 .rw[J,b?,s7 p5];have d:S! W 2=if 0<=W then W % 2 else -(-W % 2):=by
   grind
  obtain⟨P,hP,hPe⟩:∃P,(if 1<W then M (aa .i64 ((S! W 2)+2))else if W<(-1)then M (aa .i64 ((S! W 2)-2))else M (S! W 2))=M P/\((1<W/\P=W % 2+2)\/(W < -1/\P = -(-W % 2)-2)\/(-1<=W/\W<=1/\P=W)):=by
   rw[d];by_cases e:1<W
   .rw[J e,J,m? U U];simp_all
   .rw[s7 e];by_cases h2:W < -1
    .rw[J h2,s7,m? U U];simp_all
    .rw[s7 h2];grind
  rw[hP,b?];have hPb:-4<=P/\P<=4:=U
  rw[m? (n:=P*1000000) U U,m? (n:=P*1000000+n6) U U,Uk];unfold CX;rw[s7 (E!.2 hm),s7 s6,s7];obtain⟨Z,g⟩:∃Z,P*1000000+n6=Z:=⟨_,rfl⟩;rw[g];have h:xH (!(D1 (Z<0)==D1 ((1000000:Int)<0))) (Nu (!(D1 (Z<0)==D1 ((1000000:Int)<0))) mode (Z.natAbs / 1000000) (Z.natAbs % 1000000) 1000000)=TL mode (Z / 1000000) (Z % 1000000) 1000000:=jD Z 1000000 mode s6 (!(D1 (Z<0)==D1 ((1000000:Int)<0))) (.inr p6) hm;simp only[b?];rw[show(1000000:Int).natAbs=1000000 from rfl,h,s7 p6];have c:TL mode ((W*1000000+n6) / 1000000) ((W*1000000+n6) % 1000000) 1000000=TL mode (Z / 1000000) (Z % 1000000) 1000000+(W-P):=by
   have e1:(W*1000000+n6) / 1000000=Z / 1000000+(W-P):=U
   have e2:(W*1000000+n6) % 1000000=Z % 1000000:=U
   rw[e1,e2];exact Qac U U
  have hrd2:=dW mode (Z / 1000000) (Z % 1000000) 1000000;rw[c]at b⊢;generalize TL mode (Z / 1000000) (Z % 1000000) 1000000=R at *;rw[m? (n:=W-P) U U,m? (n:=W-P+R) U U,Int.add_comm (W-P) R]
  grind
structure ad0 (t:po):Prop where
 len:t.Rows.length<=150
 n:∀r∈t.Rows,-1000000000<=r.N/\r.N<=1000000000
variable {t:po}
theorem qU(ht:t.Value.a=4->ad0 t) (date c mode:Int):∃p,Bo t date c mode=M p/\(p.2=0->-1000000000000000<=p.1/\p.1<=1000000000000000):=by
 unfold Bo;rw[bl1];by_cases hm:¬(0<=mode/\mode<=5)
 .simp_all
 have hm:=Kah.1 hm;rw[R1 (p:=¬(0<=mode/\mode<=5)) (λh=>h hm),s7 (show¬(a30=a29)from λh=>nomatch h)];have f:∀{α:Type} (k:Bool->Option α),(e? (α:=Bool) (if t.ap.a=3/\t.ap.s=0 then M (!((t.Value.a==4)&&(t.Value.s==0)))else M a29) k)=k (!D1 ((t.ap.a=3/\t.ap.s=0)/\(t.Value.a=4/\t.Value.s=0))):=by
  grind
 rw[f];by_cases hk:¬((t.ap.a=3/\t.ap.s=0)/\(t.Value.a=4/\t.Value.s=0))
 .rw[R1 hk,J (show(!false)=a29 from rfl)];simp
 have hk:=Kah.1 hk;rw[D2 hk,s7 (show¬((!true)=a29)from λh=>nomatch h)];have ht:=ht hk.2.1;by_cases hc:1000000000000000<c\/c < -1000000000000000
 .have h2:(if¬c < -1000000000000000 then M (D1 (1000000000000000<c))else M a29)=M a29:=by
   grind
  simp_all
 .rw[J,b?,s7 p5];have e:=Jab (s1:=Kj t date c) (s2:=Kj t date c) (λx y=>x=y/\∃i:Nat,x.2.2=(i:Int)/\i<=t.Rows.length/\-(1000000000000000*(i:Int))<=x.1/\x.1<=1000000000000000*(i:Int)/\-(1000000*(i:Int))<=x.2.1/\x.2.1<=1000000*(i:Int)) (λx=>(t.Rows.length-x.2.2).toNat) (λx y=>x=y/\-150000000000000000<=x.1/\x.1<=150000000000000000/\-150000000<=x.2/\x.2<=150000000) (λx y=>x=(0,3)/\y=(0,3)) (by
   rintro⟨a,b,j⟩ y ⟨rfl,i,g,o,q,s,u,z⟩;dsimp only at g o q s u z;subst g;have hl:=ht.len;unfold Kj;dsimp only;by_cases hi:i<t.Rows.length
   .have hN:=ht.n _ (E' hi);rw[J,Ma hi];simp only[b?,kj];generalize t.Rows[i]=r at hN⊢;by_cases l:wG r.ai date=a29/\¬(min r.Hi c<=max r.Lo 0)
    .rw[J l.1];have q1:D1 (min r.Hi c<=max r.Lo 0)=a30:=p5
     rw[q1];simp only[b?,M',G1];rw[m? U U];obtain⟨len,d⟩:=wag (show 0<=min r.Hi c-max r.Lo 0 by omega);rw[d,SA U hN];have hb:=OU (neg:=D1 (r.N<0)) (len:=len) (n:=r.N.natAbs);generalize NU (D1 (r.N<0)) (DQ len r.N.natAbs)=v at hb⊢;obtain⟨A,B,C⟩:=v;simp only[b?]at hb⊢;cases C
     .simp
     .left;rw[m? (n:=a+A) U U,m? (n:=b+B) U U,Ha U];refine⟨_,_,rfl,rfl,⟨rfl,i+1,rfl,U,?_⟩,?_⟩
      all_goals grind
    .have q1:(if wG r.ai date=a29 then M (D1 (min r.Hi c<=max r.Lo 0))else M a29)=M a29:=by
      simp_all
     have q2:(if¬(min r.Hi c<=max r.Lo 0)then M (!wG r.ai date)else M a29)=M a29:=by
      grind
     rw[q1];simp only[b?,B?];left;rw[Ha U];refine⟨_,_,rfl,rfl,⟨rfl,i+1,rfl,U,?_⟩,?_⟩
     all_goals grind
   grind) t.Rows.length (0,0,0) (0,0,0) p6 ⟨rfl,0,rfl,U,p6⟩
  rcases e with⟨x,y,g1,g2,rfl,g3⟩|⟨x,y,g1,g2,rfl,rfl⟩
  .rw[g1];obtain⟨w,m⟩:=x;dsimp only at g3;simp only[b?];rw[jG hm U U];simp only[b?];by_cases h:1000000000000000<rsS w m mode\/rsS w m mode < -1000000000000000
   .simp_all
   grind
  simp_all
def Vc(v:bz):Prop:=
 (v.a=1/\v.s=0/\0<=v.N/\v.N<=1)\/(v.a=2/\v.s=0/\-1000000000000<=v.N/\v.N<=1000000000000)\/(v.a=3/\v.s=0/\-1000000000000000<=v.N/\v.N<=1000000000000000)\/
 (v.a=4/\v.s=0/\-1000000000<=v.N/\v.N<=1000000000)\/(v.a=5/\v.s=0/\0<=v.N/\v.N<=109572)\/(v.a=6/\0<=v.s/\v.s<8/\0<=v.N/\v.N<16)
instance (v:bz):Decidable (Vc v):=by unfold Vc;infer_instance
def uB(v:bz):Bool:=D1 (Vc v)
theorem BY{a b:Prop} [Decidable a] [Decidable b]:(e? (α:=Bool) (if a then M (decide b)else M a30) λj=>M j)=M (D1 (a/\b)):=by
 grind
theorem bR1{a:Prop} [Decidable a] {b:Bool}:(if¬a then M b else M a30)=M (!decide a&&b):=by
 grind
theorem ud(v:bz):kc v=M (uB v):=by
 obtain⟨K,E,N⟩:=v;unfold kc uB Vc;simp only[BY,bR1,b?]
 grind[decide]
theorem Vc.range(h:Vc v):-1000000000000000<=v.N/\v.N<=1000000000000000/\1<=v.a/\v.a<=6:=by unfold Vc at h;omega
def wfS(n:ia):Bool:=
 D1 (n.N=0\/Vj n.Op=a29)&&D1 ((14<=n.Op/\n.Op<=16->0<=n.N/\n.N<=5)/\(n.Op=34->0<=n.N/\n.N % 8<=5)/\(n.Op=6->0<=n.N))
theorem bO9{n:ia}:(e? (α:=Bool) (if n.Op=14 then M a29 else if n.Op=15 then M a29 else M (n.Op==16)) λh=>
 if h=a29 then e? (α:=Bool) (if 0<=n.N then M (D1 (n.N<=5))else M a30) λe=>M e
 else if n.Op=34 then e? (α:=Bool) (if 0<=n.N then M (D1 ((S! n.N 8)<=5))else M a30) λf=>M f
 else if n.Op=6 then M (D1 (0<=n.N))else M a29)=M (D1 ((14<=n.Op/\n.Op<=16->0<=n.N/\n.N<=5)/\(n.Op=34->0<=n.N/\n.N % 8<=5)/\(n.Op=6->0<=n.N))):=by
 obtain⟨op,N⟩:=n;dsimp only;simp only[BY];by_cases b:op=14
 .simp_all
 by_cases c:op=15
 .simp_all
 by_cases d:op=16
 .simp_all
 by_cases a:op=34
 .subst a;simp
  grind
 by_cases g:op=6
 .simp_all
 simp[b,c,d,a,g];omega
theorem E0(h:1<=op/\op<=39):0<=pf op:=by
 grind[pf]
theorem OM(n:ia):Am n=M (D1 (1<=n.Op/\n.Op<=39)&&wfS n):=by
 unfold Am;rw[Zo,b?,bO9];by_cases h:1<=n.Op/\n.Op<=39
 .have:=E0 h;rw[J,Cc h,D2 h,X?];unfold wfS;by_cases hN:n.N=0
  .grind
  .cases hu:Vj n.Op<;>simp[hN]
 grind[wF]
def aE(n:ia) (env:ll):Bool:=
 if n.Op=7 then D1 (0<=n.N/\n.N<(env.ad.length:Int))else
 if n.Op=8 then D1 (0<=n.N/\n.N<(env.f.length:Int))&&!(((env.f[n.N.toNat]?).map (·.a)).getD 0==0)else
 if n.Op=33 then D1 (0<=n.N/\n.N<(env.Tables.length:Int))else
 if n.Op=34 then D1 (aa .i64 (I' n.N 8)<(env.Tables.length:Int))else
 if 36<=n.Op/\n.Op<=39 then D1 (0<=n.N/\n.N<(env.a0.length:Int))else a29
theorem ap0:(e? (α:=Bool) (if op=36 then M a29 else if op=37 then M a29 else if op=38 then M a29 else M (op==39)) k)=k (D1 (36<=op/\op<=39)):=by
 by_cases a:op=36
 .simp_all
 by_cases h2:op=37
 .simp_all
 by_cases b:op=38
 .simp_all
 by_cases h4:op=39
 .simp_all
 rw[s7 a,s7 h2,s7 b,b?]
 grind[decide_eq_false_iff_not]
theorem oC(n:ia) (env:ll):ku n env=M (aE n env):=by
 unfold ku aE;simp only[ap0,BY];split
 .rfl
 split
 .by_cases a:0<=n.N
  .by_cases b:n.N<(env.f.length:Int)
   .rw[J a,J b,mn a b,x! U];grind
   grind
  grind
 grind
structure O! (env:ll):Prop where
 tabs:∀t∈env.Tables,t.Rows.length<=150/\(t.Value.a=4->ad0 t)
 mem:env.w.length<=1048576
def Ah(n:ia) (args:List bz) (env:ll):Option (bz×Int):=
 (ta n args env).bind λa=>if a=a30 then M (⟨0,0,0⟩,8)else
 (Ja n args env).bind λx=>if¬x.2=0 then M (⟨0,0,0⟩,x.2)else
 if uB x.1=a30 then M (⟨0,0,0⟩,3)else M (x.1,0)
def cb9(e r:Option (bz×Int)):Prop:=∃p,e=M p/\r=M p/\(p.2=0->Vc p.1)
theorem mM{x:Option (bz×Int)}:(x.bind λy=>M (y.1,y.2))=x:=by cases x<;>rfl
def iS(v:bz):bz×Int:=if uB v=a29 then(v,0)else(⟨0,0,0⟩,3)
theorem ap1(v:bz):(iS v).2=0->Vc (iS v).1:=by
 grind[iS,uB]
theorem baa{n:ia}{env:ll}(h:ta n args env=M a29) {e:Int}(hc:Ja n args env=M (v,e)):Ah n args env=M (if e=0 then iS v else(⟨0,0,0⟩,e)):=by
 grind[Ah,iS]
theorem aaa{n:ia}{env:ll}(h:ta n args env=M a30):Ah n args env=M (⟨0,0,0⟩,8):=by
 grind[Ah]
theorem Vi(k:Int):Bh k=M (D1 (2<=k/\k<=4)):=by
 unfold Bh;by_cases h2:k=2
 .simp_all
 by_cases a:k=3
 .simp_all
 rw[J h2,J a,b?]
 grind[decide_eq_false]
theorem Yo(b:Bool):Zg b=M ⟨1,0,if b=a29 then 1 else 0⟩:=by cases b<;>rfl
theorem jA(v:bz) (t:ek):Xo v t=M (uB v&&(D1 (v.a=t.a)&&D1 (v.s=t.s))):=by
 grind[Xo,ud]
def pw(e:Option (bz×Int)):Prop:=∃p,e=M p/\(p.2=0->Vc p.1)
theorem Tj{n:ia}{env:ll}(h:ta n args env=M a29) {e:Int}(hc:Ja n args env=M (v,e)):pw (Ah n args env):=by
 rw[baa h hc];by_cases a:e=0
 .rw[J a];exact⟨_,rfl,ap1 v⟩
 .rw[s7 a];exact⟨_,rfl,λh2=>absurd h2 a⟩
theorem Vu{n:ia}{env:ll}(h:ta n args env=M a30):pw (Ah n args env):=by
 rw[aaa h];exact⟨_,rfl,λh2=>absurd h2 s6⟩
theorem ag3{env:ll}:pw (Ah ⟨6,N⟩ [] env):=by
 exact Tj (v:=⟨6,aa .i64 (I' N 16),S! N 16⟩) (e:=0) (by simp[ta]) (by simp[Ja])
theorem ag2{env:ll}(hf:aE ⟨7,N⟩ env=a29):pw (Ah ⟨7,N⟩ [] env):=by
 simp only[aE,B?,R2]at hf;have hi:e! env.ad N=M (env.ad[N.toNat]' U):=mn hf.1 hf.2;generalize env.ad[N.toNat]' U=v at hi;by_cases hv:uB v=a29
 .exact Tj (v:=v) (e:=0) (by grind[ta,ud]) (by grind[Ja])
 grind[ta,Vu,ud]
theorem ag1{env:ll}(hf:aE ⟨8,N⟩ env=a29):pw (Ah ⟨8,N⟩ [] env):=by
 simp only[aE,l!,G1,B?,Bool.and_eq_true,R2]at hf;have hi:e! env.f N=M (env.f[N.toNat]' U):=mn hf.1.1 hf.1.2;generalize env.f[N.toNat]' U=v at hi;by_cases hv:uB v=a29
 .exact Tj (v:=v) (e:=0) (by grind[ta,ud]) (by grind[Ja])
 grind[ta,Vu,ud]
theorem ag0{env:ll}:pw (Ah ⟨9,N⟩ [] env):=
 Tj (v:=⟨5,0,env.g⟩) (e:=0) (by simp[ta]) (by simp[Ja])
theorem eae{env:ll}:pw (Ah ⟨35,N⟩ [] env):=
 Tj (v:=⟨2,0,(env.w.length:Int)⟩) (e:=0) (by simp[ta]) (by simp[Ja])
theorem Xad{env:ll}(ha:Vc a):pw (Ah ⟨10,N⟩ [a] env):=by
 have hr:=ha.range;by_cases hn:2<=a.a/\a.a<=4
 .exact Tj (v:=⟨a.a,0,-a.N⟩) (e:=0) (by grind[ta,pc,ln,Vi]) (by grind[Ja,pq,ln,m?])
 .have hd:D1 (2<=a.a/\a.a<=4)=a30:=R1 hn;exact Vu (by simp only[ta,l!,G1,b?,rag,M',ln,pc,Vi,hd,w!,A?,B?,Z!,Haj])
theorem Yad{env:ll}(ha:Vc a):pw (Ah ⟨25,N⟩ [a] env):=by
 by_cases hn:a.a=1
 .exact Tj (v:=⟨1,0,if(a.N==0)=a29 then 1 else 0⟩) (e:=0) (by grind[ta,pc,ln]) (by simp only[Ja,l!,G1,b?,rag,M',ln,pq,Yo,w!,A?,B?,Z!,Haj])
 grind[ta,pc,Vu,ln]
theorem JK{env:ll}(b:op=31\/op=32) (ha:Vc a):pw (Ah ⟨op,N⟩ [a] env):=by
 by_cases hn:a.a=5
 .have c:0<=a.N/\a.N<=109572:=by unfold Vc at ha;omega
  obtain⟨y,m,d,f⟩:∃y m d,Il a.N=M (y,m,d):=by
   obtain⟨n,m,k,f⟩:=DP c.1 c.2;exact⟨_,_,_,iv f⟩
  rcases b with rfl|rfl
  .exact Tj (v:=⟨2,0,y⟩) (e:=0) (by grind[ta,pc,ln]) (by grind[Ja,pq,ln])
  .exact Tj (v:=⟨2,0,m⟩) (e:=0) (by grind[ta,pc,ln]) (by grind[Ja,pq,ln])
 .rcases b with rfl|rfl
  all_goals grind[ta,pc,Vu,ln]
theorem cae{env:ll}(he:O! env) (hf:aE ⟨33,N⟩ env=a29) (ha:Vc a):pw (Ah ⟨33,N⟩ [a] env):=by
 simp only[aE,l!,G1,B?,R2]at hf;have hm:env.Tables[N.toNat]' U∈env.Tables:=E' _;have hi:e! env.Tables N=M (env.Tables[N.toNat]' U):=mn hf.1 hf.2;generalize env.Tables[N.toNat]' U=t at hi hm;have ht:=he.tabs t hm;have d:uB a=a29:=D2 ha;have b:ta ⟨33,N⟩ [a] env=M (D1 (a.a=t.ap.a/\a.s=t.ap.s/\1<=t.Value.a/\t.Value.a<=6)):=by
  simp only[ta,l!,G1,B?,hi,ln,b?,jA,d,X?]
  grind
 by_cases hc:a.a=t.ap.a/\a.s=t.ap.s/\1<=t.Value.a/\t.Value.a<=6
 .rw[D2 hc]at b;have c:Ja ⟨33,N⟩ [a] env=if(MG t env.g a.N).2=a30 then M (⟨0,0,0⟩,6)else(e! t.Rows (MG t env.g a.N).1).bind λe=>M (⟨t.Value.a,t.Value.s,e.N⟩,0):=by
   grind[Ja,ln,HK]
  by_cases hl:(MG t env.g a.N).2=a29
  .grind[Gab,Ma,Tj]
  .rw[Bool.eq_false_iff.2 hl]at c
   grind[Tj]
 grind[Vu]
theorem dae{env:ll}(he:O! env) (hN:Pd ⟨34,N⟩) (hw:wfS ⟨34,N⟩=a29) (hf:aE ⟨34,N⟩ env=a29) (ha:Vc a):pw (Ah ⟨34,N⟩ [a] env):=by
 simp only[aE,l!,G1,B?,R2]at hf;have f:0<=N/\N % 8<=5:=by
  simp_all[wfS]
 obtain⟨c,d⟩:=hN;dsimp only at c d;have hq:aa .i64 (I' N 8)=N / 8:=by grind[m?]
 have hr:S! N 8=N % 8:=qae f.1;rw[hq]at hf;have hm:env.Tables[(N / 8).toNat]' U∈env.Tables:=E' _;have hi:e! env.Tables (N / 8)=M (env.Tables[(N / 8).toNat]' U):=mn U hf;generalize env.Tables[(N / 8).toNat]' U=t at hi hm;have ht:=he.tabs t hm;obtain⟨p,b1,b3⟩:=qU ht.2 env.g a.N (N % 8);have b:ta ⟨34,N⟩ [a] env=M (D1 (a.a=3/\t.ap.a=3/\t.ap.s=0/\t.Value.a=4/\t.Value.s=0)):=by
  simp only[ta,l!,G1,B?,hq,hi,ln,b?]
  grind
 by_cases hc:a.a=3/\t.ap.a=3/\t.ap.s=0/\t.Value.a=4/\t.Value.s=0
 .rw[D2 hc]at b;exact Tj (v:=⟨3,0,p.1⟩) (e:=p.2) b (by grind[Ja,ln])
 grind[Vu]
theorem Zad{c:bz}{env:ll}(ha:Vc a) (hb:Vc b) (hc:Vc c):pw (Ah ⟨26,N⟩ [a,b,c] env):=by
 by_cases h:a.a=1/\b.a=c.a/\b.s=c.s
 .have d:ta ⟨26,N⟩ [a,b,c] env=M a29:=by
   grind[ta,mf,ln,EV,ar1]
  by_cases hN:a.N=1
  .exact Tj (v:=b) (e:=0) d (by grind[Ja,ln,EV])
  .exact Tj (v:=c) (e:=0) d (by grind[Ja,ln,ar1])
 grind[ta,mf,ln,EV,ar1,Vu]
theorem Cy{env:ll}(h:1<=op/\op<=5):pw (Ah ⟨op,N⟩ [] env):=by
 refine Tj (v:=⟨op,0,N⟩) (e:=0) ?_ ?_
 .have:op=1\/op=2\/op=3\/op=4\/op=5:=U
  rcases this with rfl|rfl|rfl|rfl|rfl<;>simp[ta]
 .have:op=1\/op=2\/op=3\/op=4\/op=5:=U
  rcases this with rfl|rfl|rfl|rfl|rfl<;>simp[Ja]
theorem WN{env:ll}(h:(11<=op/\op<=24)\/(27<=op/\op<=30)):ta ⟨op,N⟩ [a,b] env=eb op a b:=by
 unfold ta;dsimp only;rw[s7,s7,s7,s7,ap0,R1 U,s7 p6,s7 p6,J p6,ln,EV,b?,b?];simp
theorem zF{env:ll}(h:(11<=op/\op<=24)\/(27<=op/\op<=30)):Ja ⟨op,N⟩ [a,b] env=vc ⟨op,N⟩ a b:=by
 unfold Ja;dsimp only;have c:(op==5)=a30:=s5
 rw[s7,s7,s7,s7,c,b?,s7 p6,s7,s7,s7,s7,s7,ap0,R1 U,s7 p6,s7,s7,s7 p6,J p6,ln,EV,b?,b?,mM]
def smB(a b:bz):Prop:=a.a=b.a/\a.s=b.s
instance (a b:bz):Decidable (smB a b):=by unfold smB;infer_instance
theorem Zp(a b:bz):mf a b=M (D1 (smB a b)):=by
 unfold mf smB;by_cases c:a.a=b.a<;>by_cases h2:a.s=b.s<;>simp[c,h2]
theorem tO{a b:Prop} [Decidable a] [Decidable b]:(if decide a=a29 then M (decide b)else M a30)=M (D1 (a/\b)):=by
 grind
theorem bP2(h:smB a b) (hn:a.N=b.N):a=b:=by
 obtain⟨k,e,n⟩:=a;obtain⟨k',e',n'⟩:=b;obtain⟨h1,h2⟩:=h
 simp_all
theorem bi7(h:Vc a) (hk:a.a=1):a.s=0/\(a.N=0\/a.N=1):=by unfold Vc at h;omega
theorem bQ1(h:Vc a) (hk:a.a=5):0<=a.N/\a.N<=109572:=by unfold Vc at h;omega
theorem pw.ite[Decidable c] {n:ia}{env:ll}{e:Int}(hal:ta n args env=M (decide c)) (hco:c->Ja n args env=M (v,e)):pw (Ah n args env):=by
 by_cases h:c
 all_goals grind[Tj,Vu]
theorem rT{env:ll}(d:op=11\/op=12) (ha:Vc a) (hb:Vc b):pw (Ah ⟨op,N⟩ [a,b] env):=by
 have h1:=ha.range;have h2:=hb.range;have c:ta ⟨op,N⟩ [a,b] env=M (D1 (smB a b/\2<=a.a/\a.a<=4)):=by
  rw[WN U];rcases d with rfl|rfl<;>simp only[eb,l!,B?,G1,b?,Zp,Vi,tO,rag]
 rcases d with rfl|rfl
 .refine pw.ite (v:=⟨a.a,0,a.N+b.N⟩) (e:=0) c (λ_=>?_);rw[zF U];simp only[vc,B?,b?,m? (n:=a.N+b.N) U U]
 .refine pw.ite (v:=⟨a.a,0,a.N-b.N⟩) (e:=0) c (λ_=>?_);rw[zF U];simp only[vc,l!,rag,B?,G1,M',b?,m? (n:=a.N-b.N) U U]
theorem sT{env:ll}(c:op=17\/op=18) (ha:Vc a) (hb:Vc b):pw (Ah ⟨op,N⟩ [a,b] env):=by
 have h1:=ha.range;have hk:(2<=a.a/\a.a<=5)↔((2<=a.a/\a.a<=4)\/a.a=5):=U
 have hal:ta ⟨op,N⟩ [a,b] env=M (D1 (smB a b/\2<=a.a/\a.a<=5)):=by
  rw[WN U];rcases c with rfl|rfl<;>simp only[eb,l!,B?,G1,b?,Zp,Vi,tO,rag,M',hk]
  all_goals grind
 have hco:smB a b/\2<=a.a/\a.a<=5->Ja ⟨op,N⟩ [a,b] env=M ((if(op==17)=D1 (a.N<b.N)then a else b),0):=by
  intro hc;rw[zF U];have he:=λh=>bP2 hc.1 h;rcases c with rfl|rfl<;>simp only[vc,Int.reduceLE,l!,rag,B?,G1,b?,M']
  all_goals grind
 grind[pw.ite]
theorem uT{env:ll}(d:op=19\/op=20):pw (Ah ⟨op,N⟩ [a,b] env):=by
 have c:ta ⟨op,N⟩ [a,b] env=M (D1 (smB a b)):=by
  rw[WN U];rcases d with rfl|rfl<;>simp only[eb,l!,B?,G1,b?,Zp,rag,M']
 rcases d with rfl|rfl
 .refine pw.ite (v:=⟨1,0,if(a.N==b.N)=a29 then 1 else 0⟩) (e:=0) c (λ_=>?_)
  simp_all[vc,zF,Yo]
 .refine pw.ite (v:=⟨1,0,if(a.N !=b.N)=a29 then 1 else 0⟩) (e:=0) c (λ_=>?_)
  simp_all[vc,zF,Yo]
theorem vT{env:ll}(d:op=21\/op=22):pw (Ah ⟨op,N⟩ [a,b] env):=by
 have hk:(2<=a.a/\a.a<=5)↔((2<=a.a/\a.a<=4)\/a.a=5):=U
 have c:ta ⟨op,N⟩ [a,b] env=M (D1 (smB a b/\2<=a.a/\a.a<=5)):=by
  rw[WN U];rcases d with rfl|rfl<;>simp only[eb,l!,B?,G1,b?,Zp,Vi,tO,rag,M',hk]
  all_goals grind
 rcases d with rfl|rfl
 .refine pw.ite (v:=⟨1,0,if D1 (a.N<b.N)=a29 then 1 else 0⟩) (e:=0) c (λ_=>?_)
  simp_all[vc,zF,Yo]
 .refine pw.ite (v:=⟨1,0,if D1 (a.N<=b.N)=a29 then 1 else 0⟩) (e:=0) c (λ_=>?_)
  simp_all[vc,zF,Yo]
theorem wT{env:ll}(c:op=23\/op=24) (ha:Vc a) (hb:Vc b):pw (Ah ⟨op,N⟩ [a,b] env):=by
 have d:ta ⟨op,N⟩ [a,b] env=M (D1 (a.a=1/\b.a=1)):=by
  rw[WN U];rcases c with rfl|rfl<;>simp only[eb,l!,B?,G1,b?,rag,M']
  all_goals grind
 refine pw.ite (v:=⟨1,0,if(if op=23 then D1 (a.N=1/\b.N=1)else D1 (a.N=1\/b.N=1))=a29 then 1 else 0⟩) (e:=0) d λhc=>?_;have n1:=(bi7 ha hc.1).2;have n2:=(bi7 hb hc.2).2;rw[zF U];rcases c with rfl|rfl<;>simp only[vc,l!,rag,B?,G1,M',b?,Yo]
 all_goals grind
theorem aae{env:ll}(ha:Vc a) (hb:Vc b):pw (Ah ⟨27,N⟩ [a,b] env):=by
 have h1:=ha.range;have h2:=hb.range;have c:ta ⟨27,N⟩ [a,b] env=M (D1 (a.a=5/\b.a=2)):=by
  rw[WN U]
  grind[eb]
 refine pw.ite (v:=⟨5,0,a.N+b.N⟩) (e:=0) c (λhc=>?_);rw[zF U];simp only[vc,l!,rag,B?,G1,M',b?,m? (n:=a.N+b.N) U U,hc.1]
theorem bZ6(a:Int) (j:Int) (ha:0<=a/\a<=109572):∃p,Hg a j=M p:=by
 by_cases hj:-3600<=j/\j<=3600
 .obtain⟨n,m,k,b⟩:=DP ha.1 ha.2;exact⟨_,Qx b hj⟩
 simp_all[Hg,Kl]
theorem bae{env:ll}(ha:Vc a):pw (Ah ⟨28,N⟩ [a,b] env):=by
 have c:ta ⟨28,N⟩ [a,b] env=M (D1 (a.a=5/\b.a=2)):=by
  rw[WN U]
  grind[eb]
 by_cases hc:a.a=5/\b.a=2
 .obtain⟨p,p1⟩:=bZ6 a.N b.N (bQ1 ha hc.1);rw[D2 hc]at c;refine Tj (v:=⟨5,0,p.1⟩) (e:=p.2) c ?_
  simp_all[vc,zF]
 grind[Vu]
theorem xT{env:ll}(d:op=29\/op=30) (ha:Vc a) (hb:Vc b):pw (Ah ⟨op,N⟩ [a,b] env):=by
 have h1:=ha.range;have h2:=hb.range;have c:ta ⟨op,N⟩ [a,b] env=M (D1 (a.a=5/\b.a=5)):=by
  rw[WN U];rcases d with rfl|rfl<;>simp only[eb,l!,B?,G1,b?,rag,M']
  all_goals grind
 obtain⟨y,y1,-⟩:=ad2 a.N b.N;rcases d with rfl|rfl
 .refine pw.ite (v:=⟨2,0,b.N-a.N⟩) (e:=0) c (λhc=>?_);rw[zF U];simp only[vc,l!,rag,B?,G1,M',b?,m? (n:=b.N-a.N) U U]
 .refine pw.ite (v:=⟨2,0,y⟩) (e:=0) c (λhc=>?_)
  simp_all[vc,zF]
structure bN0 (i:Nat) (st sk:List Int):Prop where
 len:st.length=i
 pos:0<i->sk≠[]
 zero:i=0->sk=[]
 last:∀k,k+1=sk.length->st[i-1]?=sk[k]?
 chain:∀j,j+1<sk.length->∃a b:Nat,sk[j]?=M (a:Int)/\sk[j+1]?=M (b:Int)/\a<b/\st[b-1]?=M (a:Int)
 bound:∀j,j<sk.length->∃a:Nat,sk[j]?=M (a:Int)/\a<i
theorem BW{e:List ia}(h:Wst e):∀i,i<=e.length->bN0 i (xl e i).1 (xl e i).2
 |0,_=>by
  refine⟨rfl,U,λ_=>rfl,?_,?_,?_⟩
  all_goals grind[xl]
 |i+1,hi=>by
  have d:=BW h i U;obtain⟨a1,a2,a3⟩:=h.ar (i:=i) U;have o:xl e (i+1)=((xl e i).1++[if 0<Gn e i then((xl e i).2[(xl e i).2.length-Gn e i]?).getD 0 else(i:Int)],(xl e i).2.take ((xl e i).2.length-Gn e i)++[if 0<Gn e i then((xl e i).2[(xl e i).2.length-Gn e i]?).getD 0 else(i:Int)]):=rfl;rw[o];generalize (xl e i).1=st at d⊢;generalize (xl e i).2=sk at d a2⊢;generalize Gn e i=a at a2⊢;obtain⟨f,hf,hfi,m⟩:∃f:Nat,(if 0<a then(sk[sk.length-a]?).getD 0 else(i:Int))=(f:Int)/\f<=i/\(∀j,j+1=sk.length-a->∃b:Nat,sk[j]?=M (b:Int)/\b<f/\st[f-1]?=M (b:Int)):=by
   by_cases ha:0<a
   .obtain⟨f,h1,h2⟩:=d.bound (sk.length-a) U;refine⟨f,p5,U,λj hj=>?_⟩;obtain⟨x,y,l,g,k3,k4⟩:=d.chain j U
    grind
   .refine⟨i,U,U,λj hj=>?_⟩;obtain⟨x,l,g⟩:=d.bound j U;refine⟨x,l,g,?_⟩;rw[←l];exact d.last j U
  rw[hf];have c:(sk.take (sk.length-a)).length=sk.length-a:=p6
  refine⟨by simp[d.len],λ_=>p6,λh=>U,?_,?_,?_⟩
  .intro k hk;simp only[G!,c,yag]at hk;rw[Gai,jah (by rw[d.len];omega),d.len,tah,jah U,c,show k-(sk.length-a)=0 by omega]
  .intro j hj;simp only[G!,c,yag]at hj;by_cases n:j+1<sk.length-a
   .obtain⟨x,y,l,g,k3,k4⟩:=d.chain j U;obtain⟨y',q1,q2⟩:=d.bound (j+1) U;rw[g]at q1;injection q1 with q1;refine⟨x,y,?_,?_,k3,?_⟩
    all_goals grind
   .obtain⟨x,l,g,k3⟩:=m j U;refine⟨x,f,?_,?_,g,?_⟩
    all_goals grind
  .intro j hj;simp only[G!,c,yag]at hj;by_cases n:j<sk.length-a
   .obtain⟨x,l,g⟩:=d.bound j U
    grind
   grind
theorem tP{e:List ia}:∀{n i k:Nat},i<=n->k<i->(xl e n).1[k]?=(xl e i).1[k]?
 |0,i,k,h,hk=>U
 |n+1,i,k,h,hk=>by
  by_cases hin:i=n+1
  .simp_all
  .have:(xl e (n+1)).1=(xl e n).1++[if 0<(pf (th e n).Op).toNat then((xl e n).2[(xl e n).2.length-(pf (th e n).Op).toNat]?).getD 0 else(n:Int)]:=rfl;rw[this,List.getElem?_append_left (by grind[ZH])];exact tP U hk
def ZB(e:List ia) (i j:Nat):Nat:=if j+1=Gn e i then i-1 else(((xl e i).2[(xl e i).2.length-Gn e i+j+1]?).getD 0).toNat-1
def JP(e:List ia) (i:Nat):List Int:=(s? (Gn e i)).map λj=>(ZB e i j:Int)
theorem zE{e:List ia}(h:Wst e) {i:Nat}(hi:i<e.length) {j:Nat}(hj:j<Gn e i):ZB e i j<i/\∃s:Nat,(xl e e.length).1[ZB e i j]?=M (s:Int)/\(∀d,d+1=j->ZB e i d+1=s):=by
 have b:=BW h i U;obtain⟨a1,a2,a3⟩:=h.ar hi;have hi0:0<i:=by
  rcases Nat.eq_zero_or_pos i with l|l
  .have:=b.zero l;simp_all
  omega
 have g:ZB e i j<i/\∃s:Nat,(xl e i).1[ZB e i j]?=M (s:Int)/\(xl e i).2[(xl e i).2.length-Gn e i+j]?=M (s:Int):=by
  unfold ZB;generalize (xl e i).1=st at b⊢;generalize (xl e i).2=sk at b a2⊢;generalize Gn e i=a at a2 hj⊢;by_cases c:j+1=a
  .rw[J c];obtain⟨x,k,m⟩:=b.bound (sk.length-a+j) U;exact⟨U,x,by rw[b.last (sk.length-a+j) U];omega,k⟩
  .rw[s7 c];obtain⟨x,y,k,m,k3,k4⟩:=b.chain (sk.length-a+j) U;obtain⟨y',q1,q2⟩:=b.bound (sk.length-a+j+1) U
   grind
 obtain⟨n,s,h2,h3⟩:=g;refine⟨n,s,by grind[tP],λd f=>?_⟩;subst f;obtain⟨x,y,k,m,k3,k4⟩:=b.chain ((xl e i).2.length-Gn e i+d) U
 grind[ZB]
theorem aT{e:List ia}(h:Wst e):∀{n k s:Nat},n<=e.length->(xl e n).1[k]?=M (s:Int)->s<=k
 |0,k,s,_,a=>by grind[xl]
 |n+1,k,s,hn,a=>by
  have hk:k<n+1:=by
   grind[ZH]
  by_cases b:k=n
  .subst b;have c:=BW h (k+1) hn;have hne:=c.pos U;obtain⟨q,hq⟩:∃q,q+1=(xl e (k+1)).2.length:=⟨(xl e (k+1)).2.length-1,by grind[List.length_pos_iff]⟩;have d:=c.last q hq;rw[Gai,a]at d;obtain⟨x,k1,k2⟩:=c.bound q U
   grind
  .rw[tP (i:=n) U U]at a;exact aT h U a
theorem GW{e:List ia}(h:Wst e):Qr e=((xl e e.length).1,0,0):=by
 have:=h.pos;have:=h.le;have:=h.one;unfold Qr;rw[s7,s7,Mb.2 h.err]
 simp_all
theorem mac{e:List ia}(h:Wst e) {i:Nat}(hi:i<e.length) {step:List Int×Int×Int->Option (Ex (List Int×Int×Int) (List Int) Unit)}
 (g:∀a b c,step (a,b,c)=if 0<=c then(e! a c).bind λ_=>(put a c b).bind λm=>(e! (xl e e.length).1 b).bind λk=>M (.go (m,aa .i64 (k-1),aa .i64 (c-1)))else M (.brk a)) :
 ja step (h! (Gn e i) 0,(i:Int)-1,(Gn e i:Int)-1)=M (.inl (JP e i)):=by
 have hle:=h.le;obtain⟨a1,a2,a3⟩:=h.ar hi;have ha3:Gn e i<=12:=by have:=AB (e:=e) (i:=i) λj hj=>h.err j U;omega
 refine lf (λt=>(h! (Gn e i-t) 0++(JP e i).drop (Gn e i-t),(if t=0 then(i:Int)-1 else if t=Gn e i then(((xl e e.length).1[ZB e i 0]?).getD 0)-1 else(ZB e i (Gn e i-t-1):Int)),(Gn e i:Int)-1-t)) (Gn e i) _ (λt ht=>?_) ?_ ?_
 .obtain⟨j,hj⟩:∃j,Gn e i=t+j+1:=⟨Gn e i-t-1,U⟩;obtain⟨o1,s,l,o3⟩:=zE h hi (j:=j) U;rw[g];have d:(if t=0 then(i:Int)-1 else if t=Gn e i then(((xl e e.length).1[ZB e i 0]?).getD 0)-1 else(ZB e i (Gn e i-t-1):Int))=(ZB e i j:Int):=by
   by_cases t0:t=0
   .grind[ZB]
   grind
  rw[d,J,show(Gn e i:Int)-1-t=((j:Nat):Int) by omega];have hL:(JP e i).length=Gn e i:=by simp[JP]
  rw[Ma (i:=j) s5,b?,cD s5,b?];rw[oab,l,b?];have f:(h! (Gn e i-t) 0++(JP e i).drop (Gn e i-t)).set j (ZB e i j:Int)=h! (Gn e i-(t+1)) 0++(JP e i).drop (Gn e i-(t+1)):=by
   rw[show Gn e i-t=j+1 by omega,show Gn e i-(t+1)=j by omega,List.replicate_succ',H!,sai _ _ p6,Kag,tah]
   grind[JP,Eaf]
  have hlt:ZB e i j<(xl e e.length).1.length:=s5
  have g:(s:Int)-1=(if t+1=0 then(i:Int)-1 else if t+1=Gn e i then(((xl e e.length).1[ZB e i 0]?).getD 0)-1 else(ZB e i (Gn e i-(t+1)-1):Int)):=by
   rw[s7];by_cases j0:j=0
   all_goals grind
  have hsb:(0:Int)<=s/\(s:Int)<=100:=by
   have:=aT h (A' _) l;omega
  rw[f,m? (n:=(s:Int)-1) U U,m? (n:=((j:Nat):Int)-1) U U,g];congr 4;omega
 .grind
 simp_all[JP]
theorem oz{e:List ia}(h:Wst e) {i:Nat}(hi:i<e.length) {env:ll}:Xe ⟨e,(xl e e.length).1,env⟩ (i:Int)=M (JP e i):=by
 have hle:=h.le;obtain⟨a1,a2,a3⟩:=h.ar hi;have ha3:Gn e i<=12:=by have:=AB (e:=e) (i:=i) λj hj=>h.err j U;omega
 have d:pf (th e i).Op=(Gn e i:Int):=by grind[Gn]
 unfold Xe;dsimp only;rw[Ma hi,b?,Sw hi,Zo,b?,d,UF U U,b?,Kag,m? (n:=(i:Int)-1) U U,m? (n:=(Gn e i:Int)-1) U U,mac h hi λa b c=>by grind[ai]];rfl
theorem BU(e:List ia) (i:Nat):Gn e i<=3:=by
 grind[Gn,pf]
theorem ZY(e:List ia) (i:Nat):(JP e i).length=Gn e i:=by simp[JP]
theorem WH{e:List ia}{i t:Nat}(h:t<Gn e i):e! (JP e i) (t:Int)=M ((ZB e i t:Nat):Int):=by
 grind[JP,Ma]
theorem kK{f:Nat->α}{k t:Nat}(h:t<k):((s? k).map f).take (t+1)=((s? k).map f).take t++[f t]:=by
 grind[Ι]
theorem aC6:(e? (α:=Bool) (if op=23 then M a29 else if op=24 then M a29 else M (op==26)) k)=k (D1 (op=23\/op=24\/op=26)):=by
 grind
def lz(p:bz×Int):bz×Int:=if¬p.2=0 then(⟨0,0,0⟩,p.2)else if p.1.a=1/\Vc p.1 then p else(⟨0,0,0⟩,8)
theorem bL7:(e? (α:=Bool) (if v.a=1 then(kc v).bind λa=>M (!a)else M a29) k)=k (D1 (¬(v.a=1/\Vc v))):=by
 grind[uB,ud]
theorem aZ7{a:te->Int->Option (bz×Int)}{b R275}{x:te}{p:bz×Int}(h:a x j=M p):Jc a b R275 x j=M (lz p):=by
 unfold Jc lz;rw[h,b?];simp only[bL7]
 grind
def XR(op N:Int) (a b c:bz×Int):bz×Int:=
 if¬N=0 then(⟨0,0,0⟩,2)else
 if¬(lz a).2=0 then(⟨0,0,0⟩,(lz a).2)else
 if op=26 then(if(lz a).1.N=1 then b else c)else
 if(op==23)=((lz a).1.N==0)then((lz a).1,0)else lz b
theorem Dab{c a b:bz×Int}(h1:a.2=0->Vc a.1) (h2:b.2=0->Vc b.1):(XR op N c a b).2=0->Vc (XR op N c a b).1:=by
 grind[XR,lz]
theorem W8{l:List bz}(hl:l.length<=1048576):oj l=M (l.all uB):=by
 have e1:ja (Kg l) 0=M (Aj () (ff (λi=>if(l[i]?.any λv=>!uB v)=a29 then M a30 else u4) l.length)):=
  Ji (λi=>(i:Int)) _ l.length () (λi hi _=>by
   unfold Kg;rw[J,Ma hi,x! hi]
   grind[qL,ud,Ha]) (λ_=>by grind[Kg])
 unfold oj;rw[e1];by_cases h:l.all uB=a29
 .have hn:∀i,i<l.length->(l[i]?.any λv=>!uB v)=a30:=by
   grind
  rw[Mb.2 (λi hi=>s5),h];rfl
 .have hb:l.all uB=a30:=s5
  obtain⟨x,hx,hx2⟩:∃x∈l,uB x=a30:=by
   grind
  obtain⟨k,hk,rfl⟩:=O' hx;have ne:ff (λi=>if(l[i]?.any λv=>!uB v)=a29 then M a30 else u4) l.length=M a30:=by
   cases hf:ff (λi=>if(l[i]?.any λv=>!uB v)=a29 then M a30 else u4) l.length with
   |none=>
    grind[Mb]
   |some w=>
    grind[Vb]
  rw[ne,hb];rfl
theorem oQ{n:ia}{env:ll}(ha:args.length<=3) (h:1<=n.Op/\n.Op<=39->pf n.Op=args.length->wfS n=a29->aE n env=a29->(∀a∈args,Vc a)->pw (Ah n args env)):pw (Qj n args env):=by
 unfold Qj;rw[OM,Zo,oC,W8 (l:=args) U];simp only[b?];have err:∀{c:Int},c≠0->pw (M (⟨0,0,0⟩,c)):=λh=>⟨_,rfl,λh2=>absurd h2 h⟩;by_cases i:1<=n.Op/\n.Op<=39
 case neg=>grind
 rw[D2 i];simp only[X?];by_cases h2:wfS n=a29
 case neg=>grind
 rw[h2];simp only[B?];by_cases m:pf n.Op=args.length
 case neg=>
  grind
 have:((args.length:Int) !=pf n.Op)=a30:=s5
 rw[this];simp only[b?,M',G1];by_cases j:aE n env=a29
 case neg=>grind
 rw[j];simp only[Bool.true_eq_false,G1];by_cases k:args.all uB=a29
 case neg=>grind
 rw[k];simp only[B?];have o:∀a∈args,Vc a:=λa ha=>of_decide_eq_true (List.all_eq_true.1 k a ha);have hc:=h i m h2 j o;have e1:(e? (α:=Bool) ((ta n args env).bind λf=>M (!f)) λe=>if e=a29 then M ((⟨0,0,0⟩:bz),(8:Int))else(Ja n args env).bind λd=>if¬d.2=0 then M (⟨0,0,0⟩,d.2)else(kc d.1).bind λg=>if g=a30 then M (⟨0,0,0⟩,3)else M (d.1,0))=Ah n args env:=by
  unfold Ah
  cases ta n args env with
  |none=>rfl
  |some b=>
   grind[ud]
 grind
def HH(e:List ia) (env:ll) (i:Nat):bz×Int:=((ca (3*i+3)).1 ⟨e,(xl e e.length).1,env⟩ i).getD (⟨0,0,0⟩,0)
def vF(e:List ia) (env:ll) (i:Nat):List bz:=(s? (Gn e i)).map λt=>(HH e env (ZB e i t)).1
def CU(e:List ia) (env:ll) (i:Nat) (t:Nat):Option (bz×Int):=if¬(HH e env (ZB e i t)).2=0 then M (⟨0,0,0⟩,(HH e env (ZB e i t)).2)else u4
def evQ(e:List ia) (env:ll) (i:Nat):bz×Int:=
 if(th e i).Op=23\/(th e i).Op=24\/(th e i).Op=26 then
  XR (th e i).Op (th e i).N (HH e env (ZB e i 0)) (HH e env (ZB e i 1)) (if(th e i).Op=26 then HH e env (ZB e i 2)else(⟨0,0,0⟩,1))
 else match ff (CU e env i) (Gn e i)with
  |some v=>v
  |none=>(Qj (th e i) (vF e env i) env).getD (⟨0,0,0⟩,0)
structure aa0 (e:List ia) (env:ll) (i:Nat):Prop where
 p:∀n,3*i+3<=n->(ca n).1 ⟨e,(xl e e.length).1,env⟩ i=M (HH e env i)
 ok:(HH e env i).2=0->Vc (HH e env i).1
 q:HH e env i=evQ e env i
variable {i:Nat}{e:List ia}{env:ll}
theorem uS(h1:∀n,3*i+3<=n->(ca n).1 ⟨e,(xl e e.length).1,env⟩ i=M (evQ e env i)) (h3:(evQ e env i).2=0->Vc (evQ e env i).1):aa0 e env i:=by
 have:HH e env i=evQ e env i:=by
  grind[HH]
 exact⟨s5,s5,this⟩
theorem ay1(h:Wst e) (hi:i<e.length) {n:Nat}(b:∀j,j<i->(ca n).1 ⟨e,(xl e e.length).1,env⟩ j=M (HH e env j)) :
 ja (td ⟨e,(xl e e.length).1,env⟩ (JP e i) (ca n).1) (h! (Gn e i) ⟨0,0,0⟩,0)=M (Aj (vF e env i) (ff (CU e env i) (Gn e i))):=by
 have hl:=ZY e i;have h3:=BU e i;refine Ji (step:=td ⟨e,(xl e e.length).1,env⟩ (JP e i) (ca n).1) (λt=>((vF e env i).take t++h! (Gn e i-t) ⟨0,0,0⟩,(t:Int))) (CU e env i) (Gn e i) (vF e env i) (λt ht _=>?_) (λ_=>?_) p6
 .obtain⟨c,-⟩:=zE h hi ht;have a:(vF e env i).length=Gn e i:=by simp[vF]
  unfold td;dsimp only;rw[J,WH ht,b?,b _ c,b?];unfold CU;by_cases hc:(HH e env (ZB e i t)).2=0
  .rw[s7 (E!.2 hc),s7 (E!.2 hc)];rw[Ma s5,b?,cD s5,b?,Ha U];unfold qL;dsimp only;congr 3;rw[sai _ _ s5,show t-((vF e env i).take t).length=0 by grind,show Gn e i-t=(Gn e i-(t+1))+1 by omega,List.replicate_succ,List.set_cons_zero]
   grind[vF,kK]
  .rw[J hc,J hc];rfl
 .unfold td;dsimp only;rw[s7,tah];have a:(vF e env i).length=Gn e i:=by simp[vF]
  grind
theorem aO6(h:Wst e) (hA:∀i,i<e.length->¬((th e i).Op=23\/(th e i).Op=24\/(th e i).Op=26)->pw (Qj (th e i) (vF e env i) env)):∀i,i<e.length->aa0 e env i:=by
 intro i
 induction i using Nat.strongRecOn with
 |_ i k=>
  intro hi;have hle:=h.le;have har:=h.ar hi;have hga:=BU e i;have f:=ZY e i;by_cases b:(th e i).Op=23\/(th e i).Op=24\/(th e i).Op=26
  .have hk:2<=Gn e i/\((th e i).Op=26->Gn e i=3):=by
    unfold Gn;rcases b with h|h|h<;>rw[h]<;>decide
   have r:=(zE h hi (j:=0) U).1;have x:=(zE h hi (j:=1) U).1;have s:=k _ r U;have l:=k _ x U;have u:e! (JP e i) 0=M ((ZB e i 0:Nat):Int):=WH (t:=0) U;have w:e! (JP e i) 1=M ((ZB e i 1:Nat):Int):=WH (t:=1) U;have d:(th e i).Op=26->aa0 e env (ZB e i 2)/\ZB e i 2<i/\e! (JP e i) 2=M ((ZB e i 2:Nat):Int):=λa=>by
    grind[zE,WH]
   have hq:evQ e env i=_:=J b;refine uS (λn hn=>?_) (by
    rw[hq];exact Dab l.ok (by
     split
     .rename_i a;exact(d a).1.ok
     omega))
   rw[hq];obtain⟨n,rfl⟩:∃m,n=m+3:=⟨n-3,U⟩;show Mc (ca (n+2)).1 (ca (n+2)).2.1 (ca (n+2)).2.2 _ _=_;unfold Mc;dsimp only;rw[Ma hi,b?,Sw hi,oz h hi,b?,aC6,D2 b,J rfl,mM];show bg (ca (n+1)).1 (ca (n+1)).2.1 (ca (n+1)).2.2 _ _ _=_;unfold bg XR;by_cases c:(th e i).N=0
   case neg=>grind
   rw[s7 (E!.2 c),s7 (E!.2 c),u,b?];have g:∀j,j<i->aa0 e env j->(ca (n+1)).2.2 ⟨e,(xl e e.length).1,env⟩ (j:Int)=M (lz (HH e env j)):=λj hj hb=>(show Jc (ca n).1 (ca n).2.1 (ca n).2.2 _ _=_ from aZ7 (hb.p n U));rw[g _ r s,b?];by_cases hc:(lz (HH e env (ZB e i 0))).2=0
   case neg=>grind
   rw[s7 (E!.2 hc),s7 (E!.2 hc)];by_cases a:(th e i).Op=26
   .obtain⟨c1,c2,c3⟩:=d a;rw[J a,J a,b?,J a,J a];by_cases o:(lz (HH e env (ZB e i 0))).1.N=1
    .rw[J s5,J o,w,b?,mM];exact l.p (n+1) U
    .rw[s7 s5,s7 o,c3,b?,mM];exact c1.p (n+1) U
   grind
  .obtain⟨q,q1,q3⟩:=hA i hi b;have hff:∀v,ff (CU e env i) (Gn e i)=M v->v.2≠0:=by
    grind[CU,Vb]
   have hq:evQ e env i=(match ff (CU e env i) (Gn e i)with|some v=>v|none=>q):=by
    grind[evQ]
   refine uS (λn hn=>?_) ?_
   .rw[hq];obtain⟨n,rfl⟩:∃m,n=m+1:=⟨n-1,U⟩;show Mc (ca n).1 (ca n).2.1 (ca n).2.2 _ _=_;unfold Mc;dsimp only;rw[Ma hi,b?,Sw hi,oz h hi,b?,aC6,R1 b,s7 p6,f,UF U U,b?,ay1 h hi (λj hj=>(k j hj U).p n U),b?]
    grind[TV,aO0]
   grind
theorem bd6(h:Wst e) (hb:aa0 e env (e.length-1)):Om e env=M (HH e env (e.length-1))/\((HH e env (e.length-1)).2=0->Vc (HH e env (e.length-1)).1):=by
 have hf:1000000<=Ww:=by grind[Ww]
 have hp:=h.pos;have hle:=h.le;unfold Om lu;rw[ft];simp only[b?];rw[GW h];have e1:aa .i64 ((e.length:Int)-1)=((e.length-1:Nat):Int):=by grind[m?]
 unfold ck;rw[e1];dsimp only;rw[s7 s6,hb.p _ U];exact⟨rfl,hb.ok⟩
def XK(t0 t1:List Int) (i:Nat):Option Int:=
 match t0[i]?,t1[i]? with
 |some p,M q=>if p < -1\/(i:Int)<=p then M 9 else if q<0\/9<q then M 3 else u4
 |_,_=>u4
def LN(t0 t1:List Int):Int:=
 if¬(t0.length:Int)=(t1.length:Int)then 2 else if 8<(t0.length:Int)then 4 else
 match ff (XK t0 t1) t0.length with|some v=>v|none=>0
theorem orO{a b:Prop} [Decidable a] [Decidable b] :(e? (α:=Bool) (if¬a then M (decide b)else M a29) k)=k (D1 (a\/b)):=by
 grind
theorem dC(t0 t1:List Int):Dj t0 t1=M (LN t0 t1):=by
 unfold Dj LN;by_cases hl:(t0.length:Int)=(t1.length:Int)
 case neg=>simp_all
 rw[s7 (E!.2 hl),s7 (E!.2 hl)];by_cases a:8<(t0.length:Int)
 .simp_all
 rw[s7 a,s7 a];have e1:ja (Sg t0 t1) 0=M (Aj () (ff (XK t0 t1) t0.length)):=
  Ji (λi=>(i:Int)) _ t0.length () (λi hi _=>by
   unfold Sg XK;rw[J,Ma hi,x! hi,x! (l:=t1) U];dsimp only;rw[b?,orO,Ma (l:=t1) U,b?,orO,Ha U]
   grind[qL]) (λ_=>by grind[Sg])
 rw[e1];cases ff (XK t0 t1) t0.length<;>rfl
structure Η (t0 t1:List Int):Prop where
 len:t0.length=t1.length
 le:t0.length<=8
 par:∀i (h:i<t0.length),-1<=t0[i]/\t0[i]<(i:Int)
variable {t1 t0:List Int}
theorem c7(h:LN t0 t1=0):Η t0 t1:=by
 unfold LN at h;by_cases hl:(t0.length:Int)=(t1.length:Int)
 case neg=>omega
 rw[s7 (E!.2 hl)]at h;by_cases a:8<(t0.length:Int)
 .omega
 rw[s7 a]at h;refine⟨U,U,λi hi=>?_⟩;have hn:ff (XK t0 t1) t0.length=u4:=by
  grind[XK,Vb]
 grind[XK,Mb]
def N9(t0:List Int) (at_:Int):Nat->List Int
 |0=>[]
 |n+1=>if t0[n]?=M at_ then N9 t0 at_ n++[(n:Int)]else N9 t0 at_ n
def qM(t0:List Int) (at_:Int):List Int:=N9 t0 at_ t0.length
theorem nO(t0:List Int) (a:Int):∀n,(N9 t0 a n).length<=n
 |0=>by simp[N9]
 |n+1=>by
  have:=nO t0 a n
  grind[N9]
theorem KD{t0:List Int}{a x:Int}:∀{n:Nat},x∈N9 t0 a n->∃k:Nat,x=(k:Int)/\k<n/\t0[k]?=M a
 |0,h=>by grind[N9]
 |n+1,h=>by
  unfold N9 at h;split at h
  .rename_i hn;rcases List.mem_append.1 h with h|h
   .obtain⟨k,a1,a2,a3⟩:=KD h;grind
   grind
  .obtain⟨k,a1,a2,a3⟩:=KD h;grind
theorem cC(hl:t0.length<=1048576) (a:Int):Cj t0 a=M (qM t0 a):=by
 have step:ja (Rg t0 a) (([]:List Int),0)=M (.inl (qM t0 a)):=by
  refine lf (λi=>(N9 t0 a i,(i:Int))) t0.length _ (λi hi=>?_) ?_ rfl
  .have h1:=nO t0 a i;unfold Rg;dsimp only;rw[J,Ma hi,b?,Ha U];simp only[N9,x! hi,M?];by_cases hc:t0[i]=a
   .rw[J hc,J hc,Lf s5];rfl
   simp_all
  grind[Rg,qM]
 grind[Cj]
def pri(t1:List Int) (x:Int):Int:=(t1[x.toNat]?).getD 0
def Tz(t1:List Int) (out:Int->Int) (acc:List Int) (x:Int):List Int:=
 if out x = -1 then acc else
 match acc with
 |[]=>[x]
 |y::l=>if pri t1 y<pri t1 x then [x]else if pri t1 x=pri t1 y then y::l++[x]else y::l
def Ox(t1:List Int) (out:Int->Int) (l:List Int):List Int:=l.foldl (Tz t1 out) []
theorem YA:∀x∈Ox t1 out l,x∈l:=by
 have:∀(l acc:List Int),∀x∈l.foldl (Tz t1 out) acc,x∈acc\/x∈l:=by
  intro l
  induction l with
  |nil=>simp
  |cons y l a=>
   intro acc x hx;rcases a _ x hx with h|h
   .unfold Tz at h
    grind
   simp_all
 intro x hx;rcases this l [] x hx with h|h
 all_goals simp_all
theorem L0(t1:List Int) (out:Int->Int) (l:List Int):(Ox t1 out l).length<=l.length:=by
 have:∀(l acc:List Int),(l.foldl (Tz t1 out) acc).length<=acc.length+l.length:=by
  intro l
  induction l with
  |nil=>simp
  |cons y l a=>
   intro acc;refine Lag (a _) ?_;have:(Tz t1 out acc y).length<=acc.length+1:=by
    unfold Tz
    grind
   grind
 have h:=this l [];rw[A?,Z!]at h;exact h
theorem EU{x:Int}:Ox t1 out (l++[x])=Tz t1 out (Ox t1 out l) x:=by simp[Ox]
theorem sQ{o a:Int->Int}(h:∀x∈l,o x=a x):Ox t1 o l=Ox t1 a l:=by
 have:∀(l acc:List Int),(∀x∈l,o x=a x)->l.foldl (Tz t1 o) acc=l.foldl (Tz t1 a) acc:=by
  intro l
  induction l with
  |nil=>simp
  |cons y l ih=>
   simp_all[Tz]
 exact this l [] h
theorem M0(hl:l.length<=100) (hm:∀x∈l,0<=x/\x<(t1.length:Int)) {g:Int->Option Int}(C:∀x∈l,g x=M (out x)) {mt:List Int->Option (List Int)}(j:∀q,mt q=M [])
 (D:∀a b,step (a,b)=if b<(l.length:Int)then
  e? (α:=(List Int)) (
   (e! l b).bind λh=>(g h).bind λE=>if E=(-1)then M a else
   e? (α:=(List Int)) (e? (α:=Bool) (if 0<(a.length:Int)then(e! t1 h).bind λF=>(e! a 0).bind λp=>(e! t1 p).bind λs=>M (D1 (s<F))else M a30) λm=>if m=a29 then mt a else M a) λc=>
   e? (α:=Bool) (if¬(c.length:Int)=0 then(e! t1 h).bind λt=>(e! c 0).bind λu=>(e! t1 u).bind λv=>M (t==v)else M a29) λn=>
   if n=a29 then(app 8 c ([h])).bind λw=>M w else M c) λo=>M (n? (o,(aa .i64 (b+1))))
  else M (o? a)):ja step (([]:List Int),0)=M (.inl (Ox t1 out l)):=by
 refine lf (λi=>(Ox t1 out (l.take i),(i:Int))) l.length _ (λi hi=>?_) ?_ rfl
 .have B:=L0 t1 out (l.take i);have h2:(l.take i).length<=l.length:=s5
  have d:∀y∈Ox t1 out (l.take i),0<=y/\y<(t1.length:Int):=λy z=>hm y (Xaf (YA y z));rw[D,J,Ma hi,b?,C _ (E' hi),b?,Ha U,Ι,x! hi];have hx:=hm _ (E' hi);simp only[Option.toList_some,EU];generalize l[i]=x at hx⊢;have k:e! t1 x=M (pri t1 x):=by grind[pri,mn]
  generalize Ox t1 out (l.take i)=acc at B d⊢;unfold Tz;by_cases ho:out x = -1
  .simp_all
  rw[s7 ho,s7 ho];rcases acc with _|⟨y,r⟩
  .simp_all[Lf]
  .have z:=d y p6;have f:e! t1 y=M (pri t1 y):=by grind[pri,mn]
   have A:∀(q:List Int),e! (y::q) 0=M y:=λq=>by simp[e!]
   dsimp only;rw[J p6,k,A,b?,b?,f,b?,b?];by_cases e:pri t1 y<pri t1 x
   .rw[J p5,j,b?,s7 p6,b?,J rfl,Lf p6,J e];rfl
   .rw[s7 p5,b?,J s5,b?,A,b?,f,b?,b?,s7 e];by_cases he:pri t1 x=pri t1 y
    .rw[J p5,J he,Lf s5];rfl
    simp_all
 simp_all
def gU(t1:List Int) (out:Int->Int) (l:List Int):Int:=
 match Ox t1 out l with
 |[]=>-1
 |[x]=>out x
 |_=>-2
theorem B5{o a:Int->Int}(h:∀x∈l,o x=a x):gU t1 o l=gU t1 a l:=by
 grind[gU,sQ,YA]
def oc(t0 t1:List Int) (t2:List Bool):Nat->Int->Int
 |0,_=>-1
 |k+1,i=>if gU t1 (oc t0 t1 t2 k) (qM t0 i) = -1/\(t2[i.toNat]?).getD a30=a29 then i else gU t1 (oc t0 t1 t2 k) (qM t0 i)
theorem uX(h:Η t0 t1) {i x:Int}(hx:x∈qM t0 i):i<x/\0<=x/\x<(t0.length:Int):=by
 obtain⟨k,rfl,hk,hp⟩:=KD hx;have:=h.par k hk
 simp_all
theorem u5(h:Η t0 t1):∀(d:Nat) (i:Int),0<=i->(t0.length:Int)-i<=d->∀k a:Nat,(t0.length:Int)-i<=k->(t0.length:Int)-i<=a->i<t0.length->oc t0 t1 t2 k i=oc t0 t1 t2 a i:=by
 intro d
 induction d with
 |zero=>omega
 |succ d ih=>
  intro i h0 hd k a hk hk' hi;obtain⟨k,rfl⟩:∃m,k=m+1:=⟨k-1,U⟩;obtain⟨a,rfl⟩:∃m,a=m+1:=⟨a-1,U⟩;have:gU t1 (oc t0 t1 t2 k) (qM t0 i)=gU t1 (oc t0 t1 t2 a) (qM t0 i):=B5 λx hx=>by
   have:=uX h hx
   grind
  grind[oc]
def O(t0 t1:List Int) (t2:List Bool) (i:Int):Int:=oc t0 t1 t2 t0.length i
theorem bZ8(h:Η t0 t1) {i:Int}(a:0<=i) (b:i<t0.length):O t0 t1 t2 i=if gU t1 (O t0 t1 t2) (qM t0 i) = -1/\(t2[i.toNat]?).getD a30=a29 then i else gU t1 (O t0 t1 t2) (qM t0 i):=by
 unfold O;rw[u5 h t0.length i a U t0.length (t0.length+1) U U b];rfl
def J6(t0 t1:List Int) (t2:List Bool):Int:=if LN t0 t1=0/\t2.length=t0.length then gU t1 (O t0 t1 t2) (qM t0 (-1))else -1
theorem wE{out:List Int}(h:Η t0 t1) {f:Int->Int}{i:Int}(ho:∀x∈qM t0 i,e! out x=M (f x)):Ub ⟨t0,t1,out⟩ i=M (gU t1 f (qM t0 i)):=by
 have hle:=h.le;have hlen:=h.len;have hcl:=nO t0 i t0.length;unfold Ub fm;dsimp only;rw[cC U i,b?];have hb:=M0 (t1:=t1) (out:=f) (l:=qM t0 i) (by grind[qM]) (λx hx=>by have:=uX h hx;omega) (step:=Fi ⟨t0,t1,out⟩ (qM t0 i)) (g:=λx=>e! out x) ho (mt:=λq=>(Rr q 0).bind λc=>M c) (λq=>by rw[show(0:Int)=((0:Nat):Int)from rfl,ax U];rfl) (λa b=>by grind[Fi]);rw[hb];simp only[b?];unfold gU;have d:=YA (t1:=t1) (out:=f) (l:=qM t0 i);generalize Ox t1 f (qM t0 i)=r at d⊢;rcases r with _|⟨x,_|⟨y,q⟩⟩
 all_goals grind[e!]
theorem VV(h:Η t0 t1) (h2:t2.length=t0.length):Ej t0 t1 t2=M ((s? t0.length).map λ(k:Nat)=>O t0 t1 t2 (k:Int)):=by
 have hle:=h.le;unfold Ej;rw[UF U U,b?,m? U U];have hl:ja (Tg t0 t1 t2) (h! t0.length 0,(t0.length:Int)-1)=M (.inl ((s? t0.length).map λ(k:Nat)=>O t0 t1 t2 (k:Int))):=by
  refine lf (λt=>((s? t0.length).map (λ(k:Nat)=>if k<t0.length-t then 0 else O t0 t1 t2 (k:Int)),(t0.length:Int)-1-t)) t0.length _ (λt ht=>?_) ?_ ?_
  .obtain⟨j,hj⟩:∃j,t0.length=t+j+1:=⟨t0.length-t-1,U⟩;have f:(t0.length:Int)-1-t=(j:Int):=U
   have b:t0.length-t=j+1:=U
   have c:t0.length-(t+1)=j:=U
   skip
   rw[f,b,c];unfold Tg;dsimp only;rw[J];have d:Ub ⟨t0,t1,(s? t0.length).map (λ(k:Nat)=>if k<j+1 then 0 else O t0 t1 t2 (k:Int))⟩ (j:Int)=M (gU t1 (O t0 t1 t2) (qM t0 (j:Int))):=by
    refine wE h λx hx=>?_;have:=uX h hx;obtain⟨k,rfl⟩:=wag this.2.1;rw[Ma s5]
    grind
   rw[d,b?,Ma s5,b?,cD s5,b?];rw[Ma s5];simp only[List.getElem_set_self,b?];have e:=bZ8 (t2:=t2) h (i:=(j:Int)) U U;rw[oag,x! U]at e;simp only[Option.getD_some]at e;have a:∀v,v=O t0 t1 t2 (j:Int)->((s? t0.length).map (λ(k:Nat)=>if k<j+1 then 0 else O t0 t1 t2 (k:Int))).set j v=(s? t0.length).map (λ(k:Nat)=>if k<j then 0 else O t0 t1 t2 (k:Int)):=by
    intro v hv;apply Yag
    all_goals grind
   have hw:aa .i64 ((j:Int)-1)=(t0.length:Int)-1-((t+1:Nat):Int):=by grind[m?]
   by_cases hm:gU t1 (O t0 t1 t2) (qM t0 (j:Int)) = -1
   .rw[J hm,Ma (l:=t2) U,b?,b?];by_cases ha:t2[j]' U=a29
    .rw[J ha,cD s5,b?,b?,List.set_set,a _ p5,hw]
    simp_all
   simp_all
  .grind[Tg]
  ·((try dsimp only))
   rw[Nat.sub_zero];congr 1
   .apply Yag
    all_goals simp_all
   .simp
 simp_all
theorem Xw(t0 t1:List Int) (t2:List Bool):Fm t0 t1 t2=M (J6 t0 t1 t2):=by
 unfold Fm J6;rw[dC t0 t1,b?];by_cases hv:LN t0 t1=0
 case neg=>simp_all
 rw[J hv,b?];by_cases h2:t2.length=t0.length
 case neg=>grind
 have h:=c7 hv;rw[s7 p5,J ⟨hv,h2⟩,VV h h2,b?,wE h (f:=O t0 t1 t2) λx hx=>by
  have:=uX h hx;obtain⟨k,rfl⟩:=wag this.2.1
  grind[Ma]]
 rfl
section
variable {rules:List ke} {q:ke->Bool}
end
def tK(s:fr) (x:Int):Int:=((s.n[x.toNat]?).map (·.a6)).getD 0
def EZ(s:fr) (d date:Int):List Int×List Int×List Int:=
 ((vq s.n (D5 d date) s.n.length).1,(vq s.n (D5 d date) s.n.length).2.1,(vq s.n (D5 d date) s.n.length).1.map (tK s))
theorem Pv{s:fr}(a:s.n.length<=1048576) (d date:Int):Gk s d date=M (EZ s d date):=by
 unfold Gk EZ;rw[Dz a (q:=D5 d date) (λr=>by
  grind[Gf,D5,kj]),b?]
 have hl:=(EE (rules:=s.n) (q:=D5 d date) s.n.length).2.1;have hm:=pK (rules:=s.n) (q:=D5 d date) s.n.length;generalize (vq s.n (D5 d date) s.n.length).2.1=pp;generalize (vq s.n (D5 d date) s.n.length).1=L at hl hm;have h1:ja (qh s (L,pp)) (([]:List Int),0)=M (.inl (L.map (tK s))):=by
  refine lf (λi=>((L.take i).map (tK s),(i:Int))) L.length _ (λi hi=>?_) ?_ rfl
  .have hx:=hm _ (E' hi);have h2:(L.take i).length<=L.length:=s5
   unfold qh;dsimp only;rw[J,Ma hi,b?,mn hx.1 hx.2.1,b?,Lf s5,b?,Ha U,Ι,x! hi]
   grind[tK]
  simp_all[qh]
 simp_all
end
end Go.Proofs.Dev
