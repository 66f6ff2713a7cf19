/-
  The functions as plain partial functions, and plain lemmas about them: no condition.
-/
import Derived.Test.YtmhfebelfmgckaaGreatDoorPB
open Option renaming some->M,none->q6
open Decidable renaming decide->s5
open Go.Tm.Ex renaming go->i!,brk->i?
open Go.IntKind renaming i64->b!
open Bool renaming and_eq_true->E',eq_false_iff->eac,false_eq_true->t!,not_true->γ,true_and->Μ,true_eq_false->O!,true->a35,false->a36
open Classical renaming not_not->v!
open Decidable renaming not_not->Kab
open Int renaming add_mul_ediv_left->Sac,add_mul_emod_self_left->Cac,ediv_eq_zero_of_lt->Nac,ediv_lt_of_lt_mul->cae,ediv_nonneg->Lae,emod_eq_of_lt->nad,emod_lt_of_pos->Oac,emod_nonneg->Tac,eq_ofNat_of_zero_le->W!,le_of_lt->Zae,mul_ediv_add_emod->Eac,mul_le_mul_of_nonneg_left->uad,mul_tdiv_add_tmod->dae,natAbs_mul->Kad,natCast_ediv->Iae,natCast_mul->yad,natCast_one->zad,natCast_zero->vad,reduceBEq->E?,reduceEq->t?,reduceLE->Ρ,tdiv->s?,tdiv_eq_ediv_of_nonneg->Zac,tmod->v?,tmod_lt_of_pos->Gad,toNat_natCast->Rab
open List renaming all_eq_true->R',append_assoc->P?,drop_eq_getElem_cons->Yaa,ext_getElem->Qab,filter_append->ι,filter_eq_nil_iff->Bac,getElem?_append_right->cac,getElem?_eq_getElem->n!,getElem_mem->y!,getElem_of_mem->H',length_append->Χ,length_cons->H!,length_filter_le->Ο,length_nil->L!,length_replicate->Tab,length_singleton->mab,mem_append->Β,mem_of_mem_take->Mab,nil_append->N',pairwise_iff_getElem->Dab,range->o?,replicate->l!,replicate_succ->Ψ,set_append_right->Fac,set_cons_zero->Xab,take_add_one->O'
open Nat renaming add_sub_cancel->yae,div_add_mod->Pab,div_le_self->Yab,div_lt_iff_lt_mul->pac,div_mul_le_self->gad,eq_zero_or_pos->Had,le_refl->x?,le_trans->P',lt_or_ge->Ζ,mod_lt->Γ,mul_le_mul->Vab,mul_le_mul_right->Δ,strongRecOn->Xac,sub_self->vac,zero_add->Y?
open Option renaming bind->b?,bind_some->a!
open Option.some renaming injEq->T!
set_option linter.all false
set_option maxRecDepth 10000
set_option maxHeartbeats 1000000
namespace Go.Proofs.Dev
noncomputable section
open Go Go.Tm
variable {a b v:bz}{α β:Type}{step:List Int×Int->Option (Ex (List Int×Int) (List Int) Unit)}{x0:List hO}{x y d mode N w op:Int}{q:List Int}{c:Prop}{j r z len:Nat}{s:ek}{o:Option Bool}{args:List bz}{out:Int->Int}{t2:List Bool}
def pR(r:hO):Bool:=s5 (0<=r.j)&&(s5 (r.To<=109573)&&s5 (r.j<r.To))
theorem dC(r:hO):Wn r=M (pR r):=by
 grind[Wn,ie,pR]
theorem cz(r:hO):Dd r=M (pR r):=by
 grind[Dd,ie,pR]
theorem DC(r:hO):Qk r=M (pR r):=by
 grind[Qk,Wf,pR]
theorem ZJ(r:hO):Tr r=M (pR r):=by
 grind[Tr,Wf,pR]
def u!:List hO->List Int
 |[]=>[]
 |r::l=>(if pR r=a35 then [r.j,r.To]else [])++u! l
theorem xN{a b:List hO}:u! (a++b)=u! a++u! b:=by
 induction a with
 |nil=>rfl
 |cons x l ih=>grind[u!]
theorem Xt:∀l:List hO,(u! l).length<=2*l.length
 |[]=>by simp[u!]
 |r::l=>by
  have:=Xt l
  grind[u!]
theorem Gb{l:List α}{i:Nat}(h:i<l.length):l.take (i+1)=l.take i++[l[i]]:=by
 simp
theorem kz{n:Nat}{l:List α}(hn:n=l.length) {step:List β×Int->Option (Ex (List β×Int) (List β) Unit)}(g:List α->List β) (x0:List β)
 (a:∀i (h:i<l.length),step (x0++g (l.take i),(i:Int))=M (.go (x0++g (l.take (i+1)),((i+1:Nat):Int)))) (hend:∀x,step (x,(n:Int))=M (.brk x)) (h0:g []=[]):ca step (x0,0)=M (.inl (x0++g l)):=by
 subst hn;refine Uc (λi=>(x0++g (l.take i),(i:Int))) l.length _ (λi hi=>a i hi) ?_ o0
 simp_all
theorem wU{l:List hO}(hl:l.length<=1048576) (a:step=Hf l\/step=Ee l):ca step ([],0)=M (.inl (u! l)):=by
 have h:=kz (step:=step) (l:=l) rfl u! [] (λi hi=>by
  have h1:=Xt (l.take i);have h2:(l.take i).length<=l.length:=o0
  rw[Gb hi,xN];rcases a with rfl|rfl
  .unfold Hf;dsimp only;rw[J,wa hi,a!,cz,a!,pa U]
   grind[u!,me]
  .unfold Ee;dsimp only;rw[J,wa hi,a!,cz,a!,pa U]
   grind[u!,me]) (λx=>by
  rcases a with rfl|rfl
  all_goals grind[Hf,Ee]) rfl
 simp_all
theorem JW{l:List Int}(h:l.length<=4194304):((Wa l).bind λx=>(La x).bind λy=>M y)=M (Vd l):=by
 unfold Wa La;rw[J,a!,J aaH,a!,tB]
theorem TC{l:List hO}(hl:l.length<=1048576):ei l=M (Vd (u! l)):=by
 have:=Xt l;unfold ei;rw[wU hl (.inl rfl),a!]
 grind[JW]
theorem aq4{l:List hO}(hl:l.length<=1048576):Ih l=M (Vd (u! l)):=by
 have:=Xt l;unfold Ih;rw[wU hl (.inr rfl),a!]
 grind[JW]
def Ij(x:Int):Bool:=s5 (1<=x)&&s5 (x<=109572)
def U'(t1:Int) (f:kv):Bool:=s5 (f.ai<=t1)&&pR f.aa
def BH(t1:Int) (l:List kv):List hO:=(l.filter (U' t1)).map (·.aa)
theorem nM(t1:Int) (l:List kv):(BH t1 l).length<=l.length:=by
 grind[BH]
theorem aJ7{t1:Int}{a b:List kv}:BH t1 (a++b)=BH t1 a++BH t1 b:=by simp[BH]
theorem Vw(l:List Int):(Vd l).length<=l.length:=(Mf l).2.1
theorem iz{l:List kv}(t1:Int) (hl:l.length<=65536):Qe l t1=M ((Vd (u! (BH t1 l))).filter Ij):=by
 unfold Qe;have e1:=kz (step:=Rf l t1) (l:=l) rfl (BH t1) [] (λi hi=>by
  have c:=nM t1 (l.take i);have h2:(l.take i).length<=l.length:=o0
  have a:BH t1 [l[i]]=if U' t1 l[i]=a35 then [l[i].aa]else []:=by
   grind[BH]
  rw[Gb hi,aJ7,a];have ha:=me (b:=16) (show((BH t1 (l.take i)).length + [l[i].aa].length)*16<=140737488355328 by grind);generalize BH t1 (l.take i)=w at *;unfold Rf;dsimp only;rw[J,wa hi,a!,dC,pa U]
  grind[U']) (λx=>by grind[Rf]) rfl
 rw[N']at e1;have hk:=nM t1 l;have he:=Xt (BH t1 l);have hd:=Vw (u! (BH t1 l));rw[e1,a!];dsimp only;rw[TC U,a!];generalize Vd (u! (BH t1 l))=q at *;have e2:=kz (step:=Qf q) (l:=q) rfl (λl=>l.filter Ij) [] (λi hi=>by
  have c:=Ο Ij (q.take i);have h2:(q.take i).length<=q.length:=o0
  rw[Gb hi,ι];unfold Qf;dsimp only;rw[J,wa hi,a!,pa U]
  grind[Ij,me]) (λx=>by grind[Qf]) rfl
 simp_all
theorem KV{σ β ρ:Type}{step:σ->Option (Ex σ β ρ)}(I:Nat->σ->Prop) (n:Nat) (Q:β->Prop) (c:∀j s,j<n->I j s->∃s',step s=M (.go s')/\I (j+1) s') (a:∀s,I n s->∃b,step s=M (.brk b)/\Q b) :
 ∀(k j:Nat) (s:σ),j+k=n->I j s->∃b,ca step s=M (.inl b)/\Q b
 |0,j,s,h,hi=>by
  rw[Nat.add_zero]at h;grind[Ob]
 |k+1,j,s,h,hi=>by
  obtain⟨s',h1,h2⟩:=c j s U hi;obtain⟨b,h3,h4⟩:=KV I n Q c a k (j+1) s' U h2
  grind[Ie]
def Wy(l:List oe):List hO:=l.flatMap λt=>t.Rows.map (·.aa)
def Uy(l:List ek):List hO:=l.flatMap λs=>s.f.map (·.aa)
theorem xA:∀{l:List oe},(∀t∈l,t.Rows.length<=150)->(Wy l).length<=150*l.length
 |[],_=>by simp[Wy]
 |t::l,h=>by
  have h1:=xA (l:=l) λx hx=>h x o0
  grind[Wy]
theorem sA:∀{l:List ek},(∀t∈l,t.f.length<=60)->(Uy l).length<=60*l.length
 |[],_=>by simp[Uy]
 |t::l,h=>by
  have h1:=sA (l:=l) λx hx=>h x o0
  grind[Uy]
theorem OW{a b:List oe}:Wy (a++b)=Wy a++Wy b:=by simp[Wy]
theorem GW{a b:List ek}:Uy (a++b)=Uy a++Uy b:=by simp[Uy]
theorem PW{t:oe}:Wy [t]=t.Rows.map (·.aa):=by simp[Wy]
theorem HW{t:ek}:Uy [t]=t.f.map (·.aa):=by simp[Uy]
theorem H3{l:List α}(v:α->hO) (hx:x0.length+l.length<=1048576) {step:List hO×Int->Option (Ex (List hO×Int) (List hO) Unit)}
 (hgo:∀i (h:i<l.length) x,step (x,(i:Int))=(app 16 x [v l[i]]).bind λy=>M (.go (y,aa b! ((i:Int)+1)))) (a:∀x,step (x,(l.length:Int))=M (.brk x)):ca step (x0,0)=M (.inl (x0++l.map v)):=by
 refine kz (step:=step) (l:=l) rfl (λl=>l.map v) x0 (λi hi=>?_) a rfl
 grind[me,pa,Gb]
structure E! (l:cb):Prop where
 nt:l.Tables.length<=9
 ns:l.e.length<=5
 t:∀t∈l.Tables,t.Rows.length<=150
 s:∀s∈l.e,s.f.length<=60
variable {l:List Int}
def YI{l:List α}{i:Nat}{x:α}(h:x∈l.take i):x∈l:=Mab h
theorem M7{l:cb}(h:E! l):ca (Mc l) ([],0)=M (.inl (Wy l.Tables)):=by
 have hnt:=h.nt;have:=kz (step:=Mc l) (l:=l.Tables) rfl Wy [] (λi hi=>by
  have h1:=xA (l:=l.Tables.take i) λx hx=>h.t x (YI hx);have h2:(l.Tables.take i).length<=l.Tables.length:=o0
  have h3:=h.t l.Tables[i] l5;unfold Mc;dsimp only;rw[J,wa hi,a!,N',H3 (l:=l.Tables[i].Rows) (·.aa) U (λk hk x=>by simp_all[Kh,wa]) (λx=>by grind[Kh]),a!,pa U,Gb hi,OW,PW];rfl) (λx=>by grind[Mc]) rfl
 simp_all
theorem L7{l:cb}(h:E! l) (hx:x0.length<=10000):ca (Lc l) (x0,0)=M (.inl (x0++Uy l.e)):=by
 have hns:=h.ns;refine kz (step:=Lc l) (l:=l.e) rfl Uy x0 (λi hi=>?_) (λx=>by grind[Lc]) rfl;have h1:=sA (l:=l.e.take i) λx hx=>h.s x (YI hx);have h2:(l.e.take i).length<=l.e.length:=o0
 have h3:=h.s l.e[i] l5;unfold Lc;dsimp only;rw[J,wa hi,a!,H3 (l:=l.e[i].f) (·.aa) o0 (λk hk x=>by simp_all[Wg,wa]) (λx=>by grind[Wg]),a!,pa U,Gb hi,GW,HW,P?]
theorem rW{l:cb}(h:E! l):ca (kf l) ([],0)=M (.inl (Wy l.Tables)):=by
 have hnt:=h.nt;have:=kz (step:=kf l) (l:=l.Tables) rfl Wy [] (λi hi=>by
  have h1:=xA (l:=l.Tables.take i) λx hx=>h.t x (YI hx);have h2:(l.Tables.take i).length<=l.Tables.length:=o0
  have h3:=h.t l.Tables[i] l5;unfold kf;dsimp only;rw[J,N',H3 (l:=l.Tables[i].Rows) (·.aa) U (λk hk x=>by simp_all[Am,wa]) (λx=>by grind[Am,wa]),a!,pa U,Gb hi,OW,PW];rfl) (λx=>by grind[kf]) rfl
 simp_all
theorem qW{l:cb}(h:E! l) (hx:x0.length<=10000):ca (ef l) (x0,0)=M (.inl (x0++Uy l.e)):=by
 have hns:=h.ns;refine kz (step:=ef l) (l:=l.e) rfl Uy x0 (λi hi=>?_) (λx=>by grind[ef]) rfl;have h1:=sA (l:=l.e.take i) λx hx=>h.s x (YI hx);have h2:(l.e.take i).length<=l.e.length:=o0
 have h3:=h.s l.e[i] l5;unfold ef;dsimp only;rw[J,H3 (l:=l.e[i].f) (·.aa) o0 (λk hk x=>by simp_all[Al,wa]) (λx=>by grind[Al,wa]),a!,pa U,Gb hi,GW,HW,P?]
theorem cV(x:Int):od x=M (!Ij x):=by
 grind[od,Ij]
theorem X!(h:∀i (hi:i<l.length),Ij l[i]=a35):l.filter Ij=l:=by
 rw[List.filter_eq_self];intro x hx;obtain⟨i,hi,rfl⟩:=H' hx
 simp_all
theorem aq3(hq:q.length<=1048576):∃c,Jh q=M (c,q.filter Ij):=by
 unfold Jh bn;have p:=xb (step:=Fe q) (x0:=0) (λi=>(i:Int)) (λi=>match q[i]? with|some x=>if Ij x=a35 then q6 else M (i:Int)|none=>q6) q.length () (λi hi _=>by
  unfold Fe;rw[J,wa hi,a!,cV,a!,pa U]
  grind[UD]) (λ_=>by grind[Fe])
 rw[p]
 cases hf:ff (λi=>match q[i]? with|some x=>if Ij x=a35 then q6 else M (i:Int)|none=>q6) q.length with
 |none=>
  simp_all[Ib,Xa,X!]
 |some v=>
  obtain⟨k,r,l,k3⟩:=Oa.1 hf;rw[n! r]at l;have hb:Ij q[k]=a36:=l4
  simp[hb]at l;subst l;have hk:(q.take k).filter Ij=q.take k:=X! λi hi=>by
   grind
  simp only[Ib,a!];rw[p5,pa U];obtain⟨⟨c,n⟩,hl,hc⟩:=KV (step:=Ge) (λj s=>s.2.2=(j:Int)/\s.1.length=q.length/\s.2.1=(((q.take j).filter Ij).length:Int)/\s.1.take ((q.take j).filter Ij).length=(q.take j).filter Ij/\s.1.drop j=q.drop j) q.length
   (λb=>b.1.length=q.length/\b.2=((q.filter Ij).length:Int)/\b.1.take (q.filter Ij).length=q.filter Ij) (λj s hj ⟨f,m,g,h,a⟩=>by
    obtain⟨c,n,jj⟩:=s;dsimp only at f m g h a;subst f g;have hle:=Ο Ij (q.take j);have hlt:(q.take j).length=j:=o0
    have d:c[j]' U=q[j]:=by
     have o:(c.drop j)[0]?=(q.drop j)[0]?:=by rw[a]
     grind
    have hd:c.drop (j+1)=q.drop (j+1):=by
     have:=congrArg (List.drop 1) a;simpa using this
    unfold Ge;dsimp only;rw[J,wa (show j<c.length by omega),a!,cV,a!,d,pa (show j<4611686018427387904 by omega),Gb hj,ι];cases hb:Ij q[j]
    .simp_all
    .rw[J l5,wa (show((q.take j).filter Ij).length<c.length by omega),a!,WD U,a!,pa U];refine⟨_,rfl,rfl,l4,o0,?_,?_⟩
     .simp only[hb,List.filter_cons,List.filter_nil,w3,Χ,H!,L!,Y?];rw[O',List.take_set_of_le (x? _),h,List.getElem?_set_self U];rfl
     grind[List.drop_set_of_lt]) (λs ⟨f,m,g,h,a⟩=>by
    simp_all[Ge]) (q.length-(k+1)) (k+1) (q,(k:Int),((k+1:Nat):Int)) U (by
    have e:(q.take (k+1)).filter Ij=q.take k:=by
     grind[Gb]
    grind)
  dsimp only at hc;obtain⟨o,rfl,h3⟩:=hc
  simp_all[aP8,Ο,ae1,mB]
theorem Yu{l:cb}(h:E! l):ah l=M ((Vd (u! (Wy l.Tables++Uy l.e))).filter Ij):=by
 have hnt:=h.nt;have hns:=h.ns;have h1:=xA h.t;have h2:=sA h.s;have h3:=Xt (Wy l.Tables++Uy l.e)
 grind[ah,Vw,M7,L7,aq4,aq3]
def DE(y:Int):Bool:=s5 (y % 4=0)&&(!s5 (y % 100=0) || s5 (y % 400=0))
def vn(y m:Int):Int:=if m=2 then(if DE y=a35 then 29 else 28)else if m=4\/m=6\/m=9\/m=11 then 30 else 31
def xn(y:Int):Nat->Int
 |0=>0
 |n+1=>xn y n+vn y (n+1)
def Sd:Nat->Int
 |0=>0
 |n+1=>Sd n+(if DE (1900+n)=a35 then 366 else 365)
def dX{a b:Int}(h:0<=a):a.tmod b=a % b:=Int.tmod_eq_emod_of_nonneg h
def pP{a b:Int}(h:0<=a):a.tdiv b=a / b:=Zac h
theorem LP(h:0<=y):Zx y=M (DE y):=by
 grind[Zx,DE]
theorem eA(h:0<=y):jt y=M (DE y):=by
 grind[jt,DE]
theorem Ud{m:Int}(h:0<=y) (h1:1<=m) (h2:m<=12):re y m=M (vn y m):=by
 unfold re vn;rw[J,a!,p5 l4,LP h];rw[g! U U];have:m=1\/m=2\/m=3\/m=4\/m=5\/m=6\/m=7\/m=8\/m=9\/m=10\/m=11\/m=12:=U
 rcases this with rfl|rfl|rfl|rfl|rfl|rfl|rfl|rfl|rfl|rfl|rfl|rfl<;>first|(cases DE y<;>simp[c!,mL])|simp[c!,mL]
theorem mc{m:Int}(h:0<=y) (h1:1<=m) (h2:m<=12):Hc y m=M (vn y m):=by
 unfold Hc vn;rw[eA h];have:m=1\/m=2\/m=3\/m=4\/m=5\/m=6\/m=7\/m=8\/m=9\/m=10\/m=11\/m=12:=U
 rcases this with rfl|rfl|rfl|rfl|rfl|rfl|rfl|rfl|rfl|rfl|rfl|rfl<;>first|(cases DE y<;>simp)|simp
theorem rf{m:Int}:28<=vn y m/\vn y m<=31:=by
 grind[vn]
theorem xl{y:Int}:∀n,0<=xn y n/\xn y n<=31*n
 |0=>by simp[xn]
 |n+1=>by
  have:=xl (y:=y) n;have:=rf (y:=y) (m:=n+1)
  grind[xn]
theorem kl:∀n,0<=Sd n/\Sd n<=366*n
 |0=>by simp[Sd]
 |n+1=>by
  have:=kl n
  grind[Sd]
theorem yP:∀n:Nat,Sd n=365*n+((1899+n:Int) / 4-(1899+n:Int) / 100+(1899+n:Int) / 400)-460
 |0=>by simp[Sd]
 |n+1=>by
  simp only[Sd,yP n,DE]
  grind
theorem On{n:Nat}(h:n<=1000):Yj (1900+n)=M (Sd n):=by
 unfold Yj Er;simp only[a!];have e1:aa b! ((1900+(n:Int))-1)=1899+n:=by grind[g!]
 have e2:aa b! ((1900+(n:Int))-1900)=n:=by grind[g!]
 rw[e1,e2];rw[pP (a:=1899+(n:Int)) U,pP (a:=1899+(n:Int)) U,pP (a:=1899+(n:Int)) U]
 grind[yP,g!]
def qh(n m:Nat):Int:=Sd n+xn (1900+n) m
theorem ZM{n m:Nat}(hn:n<300) (hm:m<12):Tl (1900+n) (m+1) 1=M (qh n m,0):=by
 unfold Tl;have hy:=kl n;have hd:=rf (y:=1900+n) (m:=(m:Int)+1);rw[J,J,J,J,J,Ud U U U,a!,a!,p5 o0,On U,a!];have e:ca (fe (1900+n) (m+1)) (Sd n,0)=M (.inl (qh n m)):=Uc (step:=fe (1900+n) (m+1)) (λi=>(Sd n+xn (1900+n) i,(i:Int))) m (qh n m) (λi hi=>by
  unfold fe;dsimp only;rw[g! (n:=(m:Int)+1-1) U U,J,pa U,Ud U U U,a!];have:=xl (y:=1900+n) i;have:=rf (y:=1900+n) (m:=((i+1:Nat):Int))
  grind[xn,g!]) (by
  unfold fe;dsimp only;rw[g! (n:=(m:Int)+1-1) U U,p5];rfl) (by simp[xn])
 rw[e];have:=xl (y:=1900+n) m
 grind[qh,g!]
theorem OL{n m:Nat}(hn:n<300) (hm:m<12):fg (1900+n) (m+1) 1=M (qh n m,0):=by
 unfold fg;have hd:=rf (y:=1900+n) (m:=(m:Int)+1);rw[J,J,J,mc U U U,a!,a!,p5 o0];have e:ca (sd (1900+n)) (aa b! (1-1),1900)=M (.inl (Sd n)):=Uc (step:=sd (1900+n)) (λi=>(Sd i,1900+(i:Int))) n (Sd n) (λi hi=>by
  unfold sd Vf;dsimp only;have:=kl i;rw[J,eA U,a!,g! (n:=1900+(i:Int)+1) U U];cases hb:DE (1900+(i:Int))
  .simp only[t!,s7,a!,Sd,hb]
   grind[g!]
  .simp only[w3,a!,Sd,hb]
   grind[g!]) (by
  simp_all[sd]) (by simp[Sd];decide)
 rw[e];have hy:=kl n;have e2:ca (qd (1900+n) (m+1)) (Sd n,1)=M (.inl (qh n m)):=Uc (step:=qd (1900+n) (m+1)) (λi=>(Sd n+xn (1900+n) i,(i:Int)+1)) m (qh n m) (λi hi=>by
  unfold qd;dsimp only;rw[J,mc U U U,a!];have:=xl (y:=1900+n) i;have:=rf (y:=1900+n) (m:=(i:Int)+1)
  grind[xn,g!]) (by
  unfold qd;dsimp only;rw[p5];rfl) (by simp[xn])
 simp_all
def Ua(t:Int):hO×Int:=if 0<=t/\t<=3599 then(⟨qh (t.toNat / 12) (t.toNat % 12),qh (t.toNat / 12) (t.toNat % 12)+vn (1900+(t.toNat / 12:Nat)) ((t.toNat % 12:Nat)+1)⟩,0)else(⟨0,0⟩,3)
theorem ux{t:Int}(h:(Ua t).2=0):0<=(Ua t).1.j/\(Ua t).1.j<(Ua t).1.To/\(Ua t).1.To<=1000000:=by
 unfold Ua at h⊢;split
 .rename_i hc;have:=kl (t.toNat / 12);have:=xl (y:=1900+((t.toNat / 12:Nat):Int)) (t.toNat % 12);have:=rf (y:=1900+((t.toNat / 12:Nat):Int)) (m:=((t.toNat % 12:Nat):Int)+1)
  grind[qh]
 simp_all
theorem AK{t:Int}(h1:0<=t) (h2:t<=3599):aa b! (1900+aa b! (t.tdiv 12))=1900+((t.toNat / 12:Nat):Int)/\aa b! (t.tmod 12+1)=((t.toNat % 12:Nat):Int)+1:=by
 grind[g!]
theorem eQ(t:Int):qv t=M (s5 (0<=t/\t<=3599)):=by
 grind[qv]
theorem BG(t:Int):wv t=M (s5 (0<=t/\t<=3599)):=by
 grind[wv]
theorem wG(t:Int):pv t=M (Ua t):=by
 unfold pv iD Ua;rw[eQ,a!];by_cases h:0<=t/\t<=3599
 .obtain⟨e1,e2⟩:=AK h.1 h.2;have hn:t.toNat / 12<300:=U
  have hm:t.toNat % 12<12:=U
  have:=kl (t.toNat / 12);have:=xl (y:=1900+((t.toNat / 12:Nat):Int)) (t.toNat % 12);have:=rf (y:=1900+((t.toNat / 12:Nat):Int)) (m:=((t.toNat % 12:Nat):Int)+1);rw[p5 o0,e1,e2,ZM hn hm,a!];simp only[p5 (show¬(s5 (0<=t/\t<=3599)=a36) by grind),a!,Ud (y:=1900+((t.toNat / 12:Nat):Int)) (m:=((t.toNat % 12:Nat):Int)+1) U U U,J h];rw[p5 l5,g! (by grind[qh]) (by grind[qh])]
 simp_all
theorem jQ(t:Int):vy t=M (Ua t):=by
 unfold vy Ou Ua;rw[BG,a!];by_cases h:0<=t/\t<=3599
 .obtain⟨e1,e2⟩:=AK h.1 h.2;have hn:t.toNat / 12<300:=U
  have hm:t.toNat % 12<12:=U
  have:=kl (t.toNat / 12);have:=xl (y:=1900+((t.toNat / 12:Nat):Int)) (t.toNat % 12);have:=rf (y:=1900+((t.toNat / 12:Nat):Int)) (m:=((t.toNat % 12:Nat):Int)+1);rw[p5 o0,e1,e2,OL hn hm,a!];simp only[p5 (show¬(s5 (0<=t/\t<=3599)=a36) by grind),a!,mc (y:=1900+((t.toNat / 12:Nat):Int)) (m:=((t.toNat % 12:Nat):Int)+1) U U U,J h]
  grind[qh,g!]
 simp_all
theorem RR:Sd 300=109573:=by grind[yP]
theorem cl2(y:Int):vn y 1=31/\vn y 3=31/\vn y 4=30/\vn y 5=31/\vn y 6=30/\vn y 7=31/\vn y 8=31/\vn y 9=30/\vn y 10=31/\vn y 11=30/\vn y 12=31:=by
 simp[vn]
theorem O3(y:Int):xn y 12=if DE y=a35 then 366 else 365:=by
 obtain⟨h1,h3,h4,h5,h6,h7,h8,h9,h10,h11,h12⟩:=cl2 y;have e:xn y 12=0+vn y 1+vn y 2+vn y 3+vn y 4+vn y 5+vn y 6+vn y 7+vn y 8+vn y 9+vn y 10+vn y 11+vn y 12:=rfl
 grind[vn]
theorem CA(n:Nat):Sd (n+1)=Sd n+xn (1900+n) 12:=by
 rw[O3];rfl
theorem Uu:∀{i j:Nat},i<=j->Sd i<=Sd j:=by
 intro i j h
 induction h with
 |refl=>omega
 |step h ih=>
  grind[Sd]
theorem SJ:∀{i j:Nat},i<=j->xn y i<=xn y j:=by
 intro i j h
 induction h with
 |refl=>omega
 |step h ih=>
  rename_i j;have:=rf (y:=y) (m:=j+1)
  grind[xn]
theorem P1{t:Int}(c:0<=t):∀N,t<Sd N->∃n,n<N/\Sd n<=t/\t<Sd (n+1)
 |0,h=>by grind[Sd]
 |N+1,h=>by
  by_cases d:t<Sd N
  .obtain⟨n,a,b⟩:=P1 c N d
   grind
  grind
theorem mV{y t:Int}(c:0<=t):∀N,t<xn y N->∃n,n<N/\xn y n<=t/\t<xn y (n+1)
 |0,h=>by grind[xn]
 |N+1,h=>by
  by_cases d:t<xn y N
  .obtain⟨n,a,b⟩:=mV c N d
   grind
  grind
structure Ymd (t:Int) (n m:Nat) (k:Int):Prop where
 hn:n<300
 hm:m<12
 hk:0<=k/\k<vn (1900+n) (m+1)
 ht:t=qh n m+k
variable {n:fr}{m:Int}{k:Bool->Option α}
theorem rF{t:Int}(b:0<=t) (h1:t<=109572):∃n m k,Ymd t n m k:=by
 obtain⟨n,a1,a2,a3⟩:=P1 b 300 (by grind[RR]);rw[CA]at a3;obtain⟨m,a,b2,b3⟩:=mV (y:=1900+n) (t:=t-Sd n) U 12 U;refine⟨n,m,t-Sd n-xn (1900+n) m,a1,a,⟨U,?_⟩,by grind[qh]⟩
 grind[xn]
theorem Ymd.year{t n m k}(h:Ymd t n m k):Sd n<=t/\t<Sd (n+1):=by
 obtain⟨h1,h2,h3,h4⟩:=h;have:=(xl (y:=1900+n) m).1;have h5:=SJ (y:=1900+n) (i:=m+1) (j:=12) U
 grind[xn,qh,CA]
theorem Ymd.range{t n m k}(h:Ymd t n m k):0<=t/\t<=109572:=by
 have h1:=h.year;have:=Uu (i:=n+1) (j:=300) aaJ;rw[RR]at this;have:=kl n;omega
theorem Ul(t:Int):Gr t=M (s5 (0<=t/\t<=109572)):=by
 grind[Gr]
theorem lu(t:Int):Vo t=M (s5 (0<=t/\t<=109572)):=by
 grind[Vo]
theorem aU9{σ ρ:Type}{step:σ->Option (Ex σ β ρ)}{x0:σ}(S:Nat->σ) (n:Nat) (v:ρ) (hgo:∀i,i<n->step (S i)=M (.go (S (i+1)))) (hend:step (S n)=M (.ret v)) (a:x0=S 0):ca step x0=M (.inr v):=by
 subst a;have:∀k j,j+k=n->ca step (S j)=M (.inr v):=by
  intro k
  induction k with
  |zero=>simp_all[ct]
  |succ k ih=>grind[Ie]
 simp_all
theorem ep{t n m k}(h:Ymd t n m k):Zm t=M (1900+(n:Int),(m:Int)+1,k+1):=by
 have hr:=h.range;have hy:=h.year;unfold Zm;rw[Ul,a!,p5 l4];have hq:t.tdiv 366=((t.toNat / 366:Nat):Int):=o0
 have hle:t.toNat / 366<=n:=by
  have:=(kl (n+1)).2;omega
 have e1:ca (Bq t) (aa b! (1900+(aa b! (s? t 366))))=M (.inl (1900+(n:Int))):=by
  refine Uc (step:=Bq t) (λi=>1900+((t.toNat / 366+i:Nat):Int)) (n-t.toNat / 366) _ (λi hi=>?_) ?_ ?_
  .unfold Bq;have hm:=Uu (i:=t.toNat / 366+i+1) (j:=n) U;have e:aa b! (1900+((t.toNat / 366+i:Nat):Int)+1)=1900+((t.toNat / 366+i+1:Nat):Int):=by
    rw[g! U aaJ];omega
   rw[e,On aaJ,a!,J];rfl
  .unfold Bq;have e:aa b! (1900+((t.toNat / 366+(n-t.toNat / 366):Nat):Int)+1)=1900+((n+1:Nat):Int):=by
    rw[g! U aaJ];omega
   rw[e,On aaJ,a!,p5]
   simp_all
  grind[g!]
 rw[e1,a!];dsimp only;rw[On aaJ,a!];have ht:=h.ht;unfold qh at ht;have hmm:=xl (y:=1900+n) m;have hkk:=h.hk;have hdd:=rf (y:=1900+n) (m:=m+1);have hyy:=kl n;have hm12:=h.hm;have hn3:=h.hn;have e2:ca (Aq (1900+n)) (aa b! (t-Sd n),0)=M (.inr (1900+(n:Int),(m:Int)+1,k+1)):=by
  refine aU9 (step:=Aq (1900+n)) (λi=>(xn (1900+n) m-xn (1900+n) i+k,(i:Int))) m _ (λi hi=>?_) ?_ ?_
  .unfold Aq;dsimp only;have a:=SJ (y:=1900+n) (i:=i+1) (j:=m) U;have h3:=(xl (y:=1900+n) i);have h4:=rf (y:=1900+n) (m:=i+1);simp only[xn]at a;rw[J,pa U,Ud U U U,a!];rw[show((i+1:Nat):Int)=(i:Int)+1 from rfl]at *;rw[p5,g! U U]
   grind[xn]
  .unfold Aq;dsimp only;rw[J,pa U,Ud U U U,a!];rw[show((m+1:Nat):Int)=(m:Int)+1 from rfl]at *;rw[J,g! U U];simp
  grind[xn,g!]
 simp_all
theorem Nu(h:0<=y):Vf y=M (xn y 12):=by
 grind[Vf,eA,O3]
theorem AG{t n m k}(h:Ymd t n m k):Sr t=M (1900+(n:Int),(m:Int)+1,k+1):=by
 have hr:=h.range;have hy:=h.year;have ht:=h.ht;unfold qh at ht;have hmm:=xl (y:=1900+n) m;have hkk:=h.hk;have hdd:=rf (y:=1900+n) (m:=m+1);have hyy:=kl n;have hm12:=h.hm;have hn3:=h.hn;unfold Sr;rw[lu,a!,p5 l4];have e1:ca oo (t,1900)=M (.inl (t-Sd n,1900+(n:Int))):=by
  refine Uc (step:=oo) (λi=>(t-Sd i,1900+(i:Int))) n _ (λi hi=>?_) ?_ (by simp[Sd])
  .unfold oo;dsimp only;have a:=Uu (i:=i+1) (j:=n) U;have h2:=CA i;have b:=kl i;have c:=xl (y:=1900+i) 12;rw[Nu U,a!,J,a!,g! U U,g! U U,h2]
   grind
  .unfold oo;dsimp only;have h2:=CA n;rw[Nu U,a!,p5]
 rw[e1,a!];dsimp only;have e2:ca (mo (1900+n)) (t-Sd n,1)=M (.inl (k,(m:Int)+1)):=by
  refine Uc (step:=mo (1900+n)) (λi=>(xn (1900+n) m-xn (1900+n) i+k,(i:Int)+1)) m _ (λi hi=>?_) ?_ ?_
  .unfold mo;dsimp only;have a:=SJ (y:=1900+n) (i:=i+1) (j:=m) U;have b:=(xl (y:=1900+n) i);have c:=rf (y:=1900+n) (m:=i+1);simp only[xn]at a⊢;rw[mc U U U,a!,J,a!,g! U U,g! U U]
   grind
  .unfold mo;dsimp only;rw[mc U U U,a!,p5];simp
  grind[xn]
 grind[g!]
theorem YM{n m:Nat}(hn:n<300) (hm:m<12) (hd1:1<=d) (hd2:d<=vn (1900+n) (m+1)):Tl (1900+n) (m+1) d=M (qh n m+d-1,0):=by
 unfold Tl;have hy:=kl n;have hd:=rf (y:=1900+n) (m:=(m:Int)+1);rw[J,J,J,J,J,Ud U U U,a!,a!,p5 l4,On U,a!];have e:ca (fe (1900+n) (m+1)) (Sd n,0)=M (.inl (qh n m)):=Uc (step:=fe (1900+n) (m+1)) (λi=>(Sd n+xn (1900+n) i,(i:Int))) m (qh n m) (λi hi=>by
  unfold fe;dsimp only;rw[g! (n:=(m:Int)+1-1) U U,J,pa U,Ud U U U,a!];have:=xl (y:=1900+n) i;have:=rf (y:=1900+n) (m:=((i+1:Nat):Int))
  grind[xn,g!]) (by
  unfold fe;dsimp only;rw[g! (n:=(m:Int)+1-1) U U,p5];rfl) (by simp[xn])
 rw[e];have:=xl (y:=1900+n) m
 grind[qh,g!]
theorem NL{n m:Nat}(hn:n<300) (hm:m<12) (hd1:1<=d) (hd2:d<=vn (1900+n) (m+1)):fg (1900+n) (m+1) d=M (qh n m+d-1,0):=by
 unfold fg;have hd:=rf (y:=1900+n) (m:=(m:Int)+1);rw[J,J,J,mc U U U,a!,a!,p5 l4,g! (n:=d-1) U U];have e:ca (sd (1900+n)) (d-1,1900)=M (.inl (d-1+Sd n)):=Uc (step:=sd (1900+n)) (λi=>(d-1+Sd i,1900+(i:Int))) n (d-1+Sd n) (λi hi=>by
  unfold sd;dsimp only;have:=kl i;have:=xl (y:=1900+i) 12;rw[J,Nu U,a!,g! (n:=1900+(i:Int)+1) U U,g! U U,CA]
  grind) (by
  simp_all[sd]) (by simp[Sd])
 rw[e,a!];dsimp only;have hy:=kl n;have hmo:=xl (y:=1900+n) m;have e2:ca (qd (1900+n) (m+1)) (d-1+Sd n,1)=M (.inl (qh n m+d-1)):=Uc (step:=qd (1900+n) (m+1)) (λi=>(d-1+Sd n+xn (1900+n) i,(i:Int)+1)) m (qh n m+d-1) (λi hi=>by
  unfold qd;dsimp only;rw[J,mc U U U,a!];have:=xl (y:=1900+n) i;have:=rf (y:=1900+n) (m:=(i:Int)+1)
  grind[xn,g!]) (by
  grind[qd,qh]) (by simp[xn])
 simp_all
def zP(n m:Nat) (k j:Int):Int×Int:=
 if 12*(n:Int)+m+j<0\/3599<12*(n:Int)+m+j then(0,3)else
 (qh ((12*(n:Int)+m+j) / 12).toNat ((12*(n:Int)+m+j) % 12).toNat+min (k+1) (vn (1900+(12*(n:Int)+m+j) / 12) ((12*(n:Int)+m+j) % 12+1))-1,0)
theorem bz0{b:Prop} [Decidable b] [Decidable c] {x:Option Bool}(hx:x=M a35):(b? (α:=Bool) (x.bind λa=>if a=a35 then if¬b then M (decide c)else M a35 else M a35) k)=k (s5 (b\/c)):=by
 grind
theorem Ss{t n m k}(h:Ymd t n m k) {j:Int}(hj:-3600<=j/\j<=3600):mf t j=M (zP n m k j):=by
 have hr:=h.range;have hkk:=h.hk;have hm12:=h.hm;have hn3:=h.hn;have hdd:=rf (y:=1900+n) (m:=m+1);unfold mf;rw[bz0 (by grind[Ul]),p5 l4,ep h,a!];have e:aa b! ((aa b! ((aa b! ((aa b! ((aa b! (1900+(n:Int)-1900))*12))+((m:Int)+1)))-1))+j)=12*(n:Int)+m+j:=by
  grind[g!]
 dsimp only;rw[e];unfold zP;generalize 12*(n:Int)+m+j=K at *;by_cases a:K<0
 .simp_all
 .rw[J a,a!];by_cases h2:3599<K
  .simp_all
  .rw[p5 l4,p5];have e2:aa b! (1900+aa b! (s? K 12))=1900+((K / 12).toNat:Int):=by
    grind[g!]
   have e3:aa b! (v? K 12+1)=((K % 12).toNat:Int)+1:=by
    grind[g!]
   rw[e2,e3];have hd2:=rf (y:=1900+((K / 12).toNat:Int)) (m:=((K % 12).toNat:Int)+1);rw[Ud U U U,a!,YM U U U U,a!]
   grind
theorem Yv{t n m k}(h:Ymd t n m k) {j:Int}(hj:-3600<=j/\j<=3600):Rg t j=M (zP n m k j):=by
 have hr:=h.range;have hkk:=h.hk;have hm12:=h.hm;have hn3:=h.hn;have hdd:=rf (y:=1900+n) (m:=m+1);unfold Rg;rw[bz0 (by grind[lu]),p5 l4,AG h,a!];have e:aa b! ((aa b! ((aa b! ((aa b! (12*(1900+(n:Int))))+((m:Int)+1)))-1))+j)=22800+(12*(n:Int)+m+j):=by
  grind[g!]
 dsimp only;rw[e];unfold zP;have hK:-3600<=12*(n:Int)+m+j/\12*(n:Int)+m+j<=7200:=U
 generalize 12*(n:Int)+m+j=K at *;have e2:aa b! (s? (22800+K) 12)=1900+K / 12:=by
  grind[g!]
 have e3:aa b! (v? (22800+K) 12+1)=K % 12+1:=by
  grind[g!]
 rw[e2,e3];have hd2:=rf (y:=1900+K / 12) (m:=K % 12+1);rw[mc U U U,a!];by_cases a:K<0
 .rw[J (.inl a)];unfold fg
  grind
 .by_cases h2:3599<K
  .rw[J (.inr h2)];unfold fg
   grind
  .rw[p5];have:=NL (n:=(K / 12).toNat) (m:=(K % 12).toNat) (d:=min (k+1) (vn (1900+K / 12) (K % 12+1))) U U U (by
    grind)
   grind
theorem MA{t n m k}(h:Ymd t n m k) {i:Nat}:(n+i<300->∃c,Ymd (zP n m k (12*i)).1 (n+i) m c/\(zP n m k (12*i)).2=0/\(i=0->(zP n m k (12*i)).1=t))/\(300<=n+i->zP n m k (12*i)=(0,3)):=by
 have hkk:=h.hk;have a:=h.hm;have hn3:=h.hn;constructor
 .intro hi;have e1:(12*(n:Int)+m+12*i) / 12=((n+i:Nat):Int):=U
  have e2:(12*(n:Int)+m+12*i) % 12=(m:Int):=U
  unfold zP;rw[p5,e1,e2];have hd2:=rf (y:=1900+((n+i:Nat):Int)) (m:=(m:Int)+1);simp only[Rab];refine⟨min (k+1) (vn (1900+((n+i:Nat):Int)) ((m:Int)+1))-1,⟨hi,a,U,U⟩,trivial,λb=>?_⟩;subst b;have:=h.ht
  grind
 grind[zP]
theorem ax5(a b:Int):∃r,lg a b=M r/\Dk a b=M r/\0<=r/\r<=300:=by
 unfold lg Dk;rw[Ul,Ul,lu,lu];by_cases e:¬(0<=a/\a<=109572)
 .grind
 have e:=Kab.1 e;by_cases f:¬(0<=b/\b<=109572)
 .grind
 have f:=Kab.1 f;rw[s6 e,s6 f];simp only[a!,w3,γ,t!,s7];obtain⟨c,k,g,ha⟩:=rF e.1 e.2;obtain⟨m,mb,kb,hb⟩:=rF f.1 f.2;have hya:=ha.year;have hyb:=hb.year;have hna:=ha.hn;have l:=hb.hn;have stop:∀N:Nat,c+N<300->(∀i,i<N->(zP c k g (12*((i+1:Nat):Int))).2=0/\(zP c k g (12*((i+1:Nat):Int))).1<=b)->((zP c k g (12*((N+1:Nat):Int))).2≠0\/b<(zP c k g (12*((N+1:Nat):Int))).1)->ca (df a b) 0=M (.inr (N:Int)):=by
  intro N hN o hend;refine aU9 (step:=df a b) (λi=>(i:Int)) N _ (λi hi=>?_) ?_ rfl
  .unfold df;obtain⟨g1,g2⟩:=o i hi;rw[pa U,g! (n:=12*((i+1:Nat):Int)) U U,Yv ha U,a!,J g1,a!,p5 (λh=>absurd (D1 h) (Int.not_lt.2 g2))]
  .unfold df;rw[pa U,g! (n:=12*((N+1:Nat):Int)) U U,Yv ha U,a!]
   grind
 by_cases hab:b<a
 .rw[J l4];refine⟨0,rfl,?_,U,U⟩;rw[stop 0 U (λi hi=>absurd hi (Nat.not_lt_zero _)) ?_]
  .rfl
  .rcases Ζ (c+1) 300 with d|d
   .obtain⟨p,h2,h3,-⟩:=(MA ha (i:=1)).1 d;right;have h4:=h2.year
    grind
   .left;have:=(MA ha (i:=1)).2 d
    simp_all
 .rw[p5 l4,ep ha,a!,ep hb,a!];dsimp only;have hle:c<=m:=by
   rcases Ζ m c with d|d
   .have:=Uu (i:=m+1) (j:=c) U;omega
   omega
  obtain⟨Y,hY⟩:∃Y,m=c+Y:=⟨m-c,U⟩;subst hY;have e1:aa b! (1900+((c+Y:Nat):Int)-(1900+(c:Int)))=(Y:Int):=by grind[g!]
  rw[e1,g! (n:=12*(Y:Int)) U U,Ss ha U,a!];obtain⟨p,g1,g2,g3⟩:=(MA ha (i:=Y)).1 l;have below:∀i,i<Y->(zP c k g (12*(i:Int))).2=0/\(zP c k g (12*(i:Int))).1<=b:=by
   intro i hi;obtain⟨q,q1,s,-⟩:=(MA ha (i:=i)).1 U;have:=q1.year;have:=Uu (i:=c+i+1) (j:=c+Y) U;omega
  rw[J g2,a!];by_cases hc:b<(zP c k g (12*(Y:Int))).1
  .rw[J l4,a!];have hY0:Y≠0:=by
    omega
   obtain⟨Z,rfl⟩:∃Z,Y=Z+1:=⟨Y-1,U⟩;refine⟨(Z:Int),?_,?_,U,U⟩
   .grind[g!]
   .rw[stop Z U (λi hi=>below (i+1) U) (.inr hc)];rfl
  .rw[p5 l4,a!];refine⟨(Y:Int),l5,?_,U,U⟩;have s1:∀i,i<Y->(zP c k g (12*((i+1:Nat):Int))).2=0/\(zP c k g (12*((i+1:Nat):Int))).1<=b:=by
    intro i hi;rcases Ζ (i+1) Y with d|d
    all_goals grind
   rw[stop Y l s1 ?_]
   .rfl
   .rcases Ζ (c+(Y+1)) 300 with d|d
    .obtain⟨q,q1,s,-⟩:=(MA ha (i:=Y+1)).1 d;right;have:=q1.year
     grind
    .left;rw[(MA ha (i:=Y+1)).2 d]
     decide
theorem ax6(a b:Int):∃r,lg a b=M r/\0<=r/\r<=300:=by
 unfold lg;rw[Ul,Ul];by_cases d:¬(0<=a/\a<=109572)
 .grind
 have d:=Kab.1 d;by_cases e:¬(0<=b/\b<=109572)
 .grind
 have e:=Kab.1 e;rw[s6 d,s6 e];simp only[a!,w3,γ,t!,s7];obtain⟨c,k,h,ha⟩:=rF d.1 d.2;obtain⟨f,mb,kb,hb⟩:=rF e.1 e.2;have hya:=ha.year;have hyb:=hb.year;have hna:=ha.hn;have g:=hb.hn;by_cases hab:b<a
 .simp_all
 .rw[p5 l4,ep ha,a!,ep hb,a!];dsimp only;have hle:c<=f:=by
   rcases Ζ f c with l|l
   .have:=Uu (i:=f+1) (j:=c) U;omega
   omega
  obtain⟨Y,hY⟩:∃Y,f=c+Y:=⟨f-c,U⟩;subst hY;have e1:aa b! (1900+((c+Y:Nat):Int)-(1900+(c:Int)))=(Y:Int):=by grind[g!]
  rw[e1,g! (n:=12*(Y:Int)) U U,Ss ha U,a!];obtain⟨k',g1,g2,g3⟩:=(MA ha (i:=Y)).1 g;have below:∀i,i<Y->(zP c k h (12*(i:Int))).2=0/\(zP c k h (12*(i:Int))).1<=b:=by
   intro i hi;obtain⟨k2,q1,q2,-⟩:=(MA ha (i:=i)).1 U;have:=q1.year;have:=Uu (i:=c+i+1) (j:=c+Y) U;omega
  rw[J g2,a!];by_cases hc:b<(zP c k h (12*(Y:Int))).1
  .rw[J l4,a!];have hY0:Y≠0:=by
    omega
   obtain⟨Z,rfl⟩:∃Z,Y=Z+1:=⟨Y-1,U⟩
   grind[g!]
  grind
def OA(r:hO) (d:Int):Bool:=vrB r&&(s5 (r.j<=d)&&s5 (d<r.To))
theorem Jf(r:hO) (d:Int):bc r d=M (OA r d):=by
 grind[bc,OA,Iv]
theorem qt(r:hO) (d:Int):yg r d=M (OA r d):=by
 grind[yg,OA,Px]
def CH(def_ date:Int) (r:ke):Bool:=s5 (r.u=def_)&&OA r.aa date
def Ef(rules:List ke) (q:ke->Bool):Nat->List Int×List Int×List Int
 |0=>([],[],l! rules.length 0)
 |i+1=>
  match rules[i]? with
  |none=>Ef rules q i
  |some r=>
   let p:=Ef rules q i
   let a:=if 0<=r.al/\r.al<(i:Int)then(p.2.2[r.al.toNat]?).getD 0 else -1
   if q r=a35 then(p.1++[(i:Int)],p.2.1++[a],(p.2.2.set i a).set i (p.1.length:Int))else(p.1,p.2.1,p.2.2.set i a)
theorem Bw{rules:List ke}{q:ke->Bool}:∀i,(Ef rules q i).2.2.length=rules.length/\(Ef rules q i).1.length<=i/\(Ef rules q i).2.1.length=(Ef rules q i).1.length
 |0=>by simp[Ef]
 |i+1=>by
  obtain⟨h1,h2,h3⟩:=Bw (rules:=rules) (q:=q) i
  grind[Ef]
theorem HI{rules:List ke}{q:ke->Bool}:∀i,∀x∈(Ef rules q i).1,0<=x/\x<(rules.length:Int)/\x<(i:Int)
 |0=>by simp[Ef]
 |i+1=>by
  have h:=HI (rules:=rules) (q:=q) i;unfold Ef
  grind
theorem TD{rules:List ke}(hr:rules.length<=1048576) {f:ke->Option Bool}{q:ke->Bool}(hf:∀r,f r=M (q r)):Gg rules f=M ((Ef rules q rules.length).1,(Ef rules q rules.length).2.1):=by
 unfold Gg;rw[DB U U,a!];have hl:ca (mg rules f) (([]:List Int),([]:List Int),l! rules.length 0,0)=M (.inl ((Ef rules q rules.length).1,(Ef rules q rules.length).2.1)):=by
  refine Uc (λi=>((Ef rules q i).1,(Ef rules q i).2.1,(Ef rules q i).2.2,(i:Int))) rules.length _ (λi hi=>?_) (by grind[mg]) rfl;obtain⟨h1,h2,h3⟩:=Bw (rules:=rules) (q:=q) i;unfold mg;simp only[Ef,n! hi];rw[J,wa hi,a!,pa U,hf];generalize rules[i]=r;have hanc:(b? (α:=Int) (b? (α:=Bool) (if 0<=r.al then M (s5 (r.al<(i:Int)))else M a36) λd=>if d=a35 then(c! (Ef rules q i).2.2 r.al).bind λb=>M b else M (-1)) λc=>M c)=M (if 0<=r.al/\r.al<(i:Int)then((Ef rules q i).2.2[r.al.toNat]?).getD 0 else -1):=by
   by_cases g1:0<=r.al
   .by_cases g2:r.al<(i:Int)
    .rw[J g1,a!,J l4,J ⟨g1,g2⟩,Nh g1 U,n! U];rfl
    grind
   grind
  have a:(b? (α:=Bool) (if 0<=r.al then M (s5 (r.al<(i:Int)))else M a36) λd=>if d=a35 then(c! (Ef rules q i).2.2 r.al).bind λb=>M b else M (-1))=M (if 0<=r.al/\r.al<(i:Int)then((Ef rules q i).2.2[r.al.toNat]?).getD 0 else -1):=by
   simp_all
  rw[a,a!];generalize (if 0<=r.al/\r.al<(i:Int)then((Ef rules q i).2.2[r.al.toNat]?).getD 0 else -1)=anc;rw[wa (i:=i) U,a!,WD U,a!,a!];cases q r
  .simp
  .rw[J rfl,wa (i:=i) l4,a!,WD l4,a!,me o0,a!,me o0,a!];rfl
 simp_all
theorem VL(hs:s.f.length<=1048576) (def_ date:Int):su s def_ date=M (Ef s.f (CH def_ date) s.f.length).1:=by
 unfold su;have hl:ca (Ao s def_ date) (([]:List Int),0)=M (.inl (Ef s.f (CH def_ date) s.f.length).1):=by
  refine Uc (λi=>((Ef s.f (CH def_ date) i).1,(i:Int))) s.f.length _ (λi hi=>?_) (by grind[Ao]) rfl;obtain⟨h1,h2,h3⟩:=Bw (rules:=s.f) (q:=CH def_ date) i;unfold Ao;simp only[Ef,n! hi];rw[J,wa hi,a!,pa U,qt];generalize s.f[i]=r;have hq:(if r.u=def_ then(M (OA r.aa date)).bind λa=>M a else M a36)=M (CH def_ date r):=by
   grind[CH]
  rw[hq,a!];cases CH def_ date r
  .simp
  .rw[J rfl,me o0];rfl
 simp_all
def xM(neg:Bool) (mode:Int) (q r d:Nat):Prop:=
 (mode=0/\neg=a35/\0<r)\/(mode=1/\neg=a36/\0<r)\/(mode=3/\0<r)\/(mode=4/\d<=r+r)\/(mode=5/\(d<r+r\/(d=r+r/\q % 2=1)))
instance (neg:Bool) (mode:Int) (q r d:Nat):Decidable (xM neg mode q r d):=by unfold xM;infer_instance
def Tt(neg:Bool) (mode:Int) (q r d:Nat):Nat:=if xM neg mode q r d then q+1 else q
theorem Dz(neg:Bool) (mode:Int) (q r d:Nat):q<=Tt neg mode q r d/\Tt neg mode q r d<=q+1:=by
 grind[Tt]
def GG(neg:Bool) (n:Nat):Int:=if neg=a35 then -(n:Int)else n
theorem DT(neg:Bool) (n:Nat):(GG neg n).natAbs=n:=by grind[GG]
theorem wuN{n:Int}(h1:0<=n) (h2:n<18446744073709551616):aa .u64 n=n:=by
 grind[aa]
theorem VZ(q:Nat):((v? (q:Int) 2)==1)=s5 (q % 2=1):=by
 grind
theorem bl8{d q:Nat}:(if¬((d:Int)-r)<r then if(r:Int)=d-r then M (s5 (q % 2=1))else M a36 else M a35)=M (s5 (d<r+r\/(d=r+r/\q % 2=1))):=by
 by_cases a:(d:Int)-r<r
 .grind
 .rw[J a];by_cases h2:(r:Int)=d-r
  .rw[J h2];congr 1;grind
  .rw[p5 h2];simp;omega
theorem xW{q d:Nat}(neg:Bool) (mode:Int) (hq:q<9223372036854775808) (hr:r<d) (hd:d<9223372036854775808):Uf q r d neg mode=M ((Tt neg mode q r d:Nat):Int):=by
 unfold Uf Tt;rw[wuN (n:=(d:Int)-r) U U,wuN (n:=(q:Int)+1) U U,VZ,bl8];by_cases a:r=0
 .subst a;rw[J (by rfl),p5 (by unfold xM;omega)]
 .rw[p5];unfold xM
  grind
theorem Xp{q d:Nat}(neg:Bool) (mode:Int) (hq:q<9223372036854775807) (hr:r<d) (hd:d<9223372036854775808):Ph q r d neg mode=M (GG neg (Tt neg mode q r d)):=by
 unfold Ph Tt;rw[g! (n:=(d:Int)-r) U U,g! (n:=(q:Int)+1) U U,VZ];have hh:=bl8 (q:=q) (r:=r) (d:=d);have fin:∀u:Bool,(b? (α:=Int) (if u=a35 then M ((q:Int)+1)else M (q:Int)) λa=>if neg=a35 then M (aa b! (-a))else M a)=M (GG neg (if u=a35 then q+1 else q)):=by
  intro u;unfold GG;cases u<;>cases neg<;>simp
  all_goals grind[g!]
 have key:∀u:Bool,(u=a35↔xM neg mode q r d)->∀o:Option (Bool×Bool),o=M (neg,u)->(b? o λ(x:Bool×Bool)=>b? (α:=Int) (if x.2=a35 then M ((q:Int)+1)else M (q:Int)) λa=>if x.1=a35 then M (aa b! (-a))else M a)=M (GG neg (if xM neg mode q r d then q+1 else q)):=by
  simp_all
 by_cases e0:mode=0
 .subst e0;refine key (s5 (neg=a35/\0<r)) (by unfold xM;simp) _ ?_
  grind
 by_cases e1:mode=1
 .subst e1;refine key (s5 (neg=a36/\0<r)) (by unfold xM;simp) _ ?_
  grind
 by_cases e3:mode=3
 .subst e3;refine key (s5 (0<r)) (by unfold xM;simp) _ ?_;simp
 by_cases e4:mode=4
 .subst e4;refine key (s5 (d<=r+r)) (by unfold xM;simp) _ ?_
  grind
 by_cases e5:mode=5
 .subst e5;refine key (s5 (d<r+r\/(d=r+r/\q % 2=1))) (by unfold xM;simp) _ ?_
  grind
 refine key a36 (by unfold xM;simp_all) _ ?_
 simp_all
theorem Vv(n:Int):fj n=M (s5 (0<=n/\n<=5)):=by
 grind[fj]
theorem uz(n:Int):Rr n=M (s5 (0<=n/\n<=5)):=by
 grind[Rr]
theorem aQ7{n k:Int}(hx:x = -k):(b? (α:=Bool) (if¬k<n then M (s5 (n<x))else M a35) λj=>M j)=M (s5 (k<n\/n < -k)):=by
 subst hx;grind
theorem xk{n k:Int}(h1:0<=k) (h2:k<9223372036854775808):wg n k=M (s5 (k<n\/n < -k)):=by
 unfold wg;exact aQ7 (g! U U)
theorem qf{n k:Int}(h1:0<=k) (h2:k<9223372036854775808):Hd n k=M (s5 (k<n\/n < -k)):=by
 unfold Hd;exact aQ7 (g! U U)
theorem Ri{n:Int}(h1:-9223372036854775808<=n) (h2:n<9223372036854775808):vf n=M (n.natAbs:Int):=by
 grind[vf,aa]
theorem sv{n:Int}(h1:-9223372036854775808<n) (h2:n<9223372036854775808):Dq n=M (n.natAbs:Int):=by
 unfold Dq;by_cases h:n<0
 .rw[J h,g! U U];grind
 grind
theorem OE{q:Nat}(b:Bool) (h:q<9223372036854775808):ft q b=M (GG b q):=by
 grind[ft,GG,g!]
theorem cs1{a b:Nat}(h:0<b) (ha:a<9223372036854775808):quo .u64 (a:Int) (b:Int)=M ((a / b:Nat):Int):=by
 unfold quo;have:=Yab a b;rw[p5,Zac U,←Iae]
 grind[wuN]
theorem V9{a b:Nat}{k:IntKind}(h:0<b):rem k (a:Int) (b:Int)=M ((a % b:Nat):Int):=by
 grind[rem]
theorem jT{a b:Nat}(h:0<b) (ha:a<9223372036854775808):quo b! (a:Int) (b:Int)=M ((a / b:Nat):Int):=by
 unfold quo;have:=Yab a b;rw[p5,Zac U,←Iae]
 grind[g!]
def OQ(n d mode:Int):Int×Int:=
 if¬(0<=mode/\mode<=5)then(0,1)else
 if d=0 then(0,12)else
 if(4611686018427387904<n\/n < -4611686018427387904)\/(4611686018427387904<d\/d < -4611686018427387904)then(0,3)else
 (GG (!(s5 (n<0)==s5 (d<0))) (Tt (!(s5 (n<0)==s5 (d<0))) mode (n.natAbs / d.natAbs) (n.natAbs % d.natAbs) d.natAbs),0)
theorem or2{a b:Prop} [Decidable a] [Decidable b] (h:o=M (decide b)) :(b? (α:=Bool) ((M (decide a)).bind λx=>if x=a36 then o.bind λy=>M y else M a35) k)=k (s5 (a\/b)):=by
 grind
theorem Ah(n d mode:Int):vg n d mode=M (OQ n d mode):=by
 unfold vg OQ;rw[Vv,a!];by_cases hm:0<=mode/\mode<=5
 .rw[p5 l4,p5 (v!.2 hm)];by_cases a:d=0
  .simp_all
  .rw[p5 a,p5 a,xk U U,or2 (xk U U)];by_cases hb:(4611686018427387904<n\/n < -4611686018427387904)\/(4611686018427387904<d\/d < -4611686018427387904)
   .simp_all
   .rw[p5 l4,p5 hb,Ri U U,a!,Ri U U,a!];have hl:=Yab n.natAbs d.natAbs;have hr:=(Dz (!(s5 (n<0)==s5 (d<0))) mode (n.natAbs / d.natAbs) (n.natAbs % d.natAbs) d.natAbs).2;rw[cs1 U U,a!,V9 U,a!,xW _ _ U (Γ _ U) U,a!,OE _ U];rfl
 simp_all
theorem vC(n d mode:Int):zk n d mode=M (OQ n d mode):=by
 unfold zk OQ;rw[uz,a!];by_cases hm:0<=mode/\mode<=5
 .rw[p5 l4,p5 (v!.2 hm)];by_cases a:d=0
  .simp_all
  .rw[p5 a,p5 a,qf U U,or2 (qf U U)];by_cases hb:(4611686018427387904<n\/n < -4611686018427387904)\/(4611686018427387904<d\/d < -4611686018427387904)
   .simp_all
   .rw[p5 l4,p5 hb,sv U U,a!,sv U U,a!];have hl:=Yab n.natAbs d.natAbs;rw[jT U U,a!,V9 U,a!,Xp _ _ U (Γ _ U) U];rfl
 simp_all
def mdS(c num den mode:Int):Int×Int:=
 if¬(0<=mode/\mode<=5)then(0,1)else
 if den=0 then(0,12)else
 if(1000000000000000<c\/c < -1000000000000000)\/(1000000000<num\/num < -1000000000)\/(1000000000<den\/den < -1000000000)then(0,3)else
 if Tt (!((!((s5 (c<0))==(s5 (num<0))))==(s5 (den<0)))) mode (c.natAbs*num.natAbs / den.natAbs) (c.natAbs*num.natAbs % den.natAbs) den.natAbs<=1000000000000000 then
  (GG (!((!((s5 (c<0))==(s5 (num<0))))==(s5 (den<0)))) (Tt (!((!((s5 (c<0))==(s5 (num<0))))==(s5 (den<0)))) mode (c.natAbs*num.natAbs / den.natAbs) (c.natAbs*num.natAbs % den.natAbs) den.natAbs),0)
 else(0,3)
theorem or3{a b:Prop} [Decidable a] [Decidable b] [Decidable c] {p:Option Bool}(h:o=M (decide b)) (h2:p=M (decide c)) :(b? (α:=Bool) ((M (decide a)).bind λx=>if x=a36 then o.bind λy=>if y=a36 then p.bind λz=>M z else M a35 else M a35) k)=k (s5 (a\/b\/c)):=by
 grind
theorem R3{x y:Nat}(hx:x<18446744073709551616) (hy:y<18446744073709551616):uf x y=M (((x*y / 18446744073709551616:Nat):Int),((x*y % 18446744073709551616:Nat):Int)):=by
 grind[uf]
theorem ar4{p:Nat}(hp:p / 18446744073709551616<z) (hz:z<18446744073709551616):Qg ((p / 18446744073709551616:Nat):Int) ((p % 18446744073709551616:Nat):Int) z=M (((p / z:Nat):Int),((p % z:Nat):Int)):=by
 grind[Qg]
theorem NQ{p:Nat}(a:0<z) (h:z<=p / 18446744073709551616):18446744073709551616<=p / z:=by
 rw[Nat.le_div_iff_mul_le a];omega
theorem fO(c num den mode:Int):Uv c num den mode=M (mdS c num den mode):=by
 unfold Uv mdS;rw[Vv,a!];by_cases hm:0<=mode/\mode<=5
 .rw[p5 l4,p5 (v!.2 hm)];by_cases e:den=0
  .simp_all
  .rw[p5 e,p5 e,xk U U,or3 (xk U U) (xk U U)];by_cases hb:(1000000000000000<c\/c < -1000000000000000)\/(1000000000<num\/num < -1000000000)\/(1000000000<den\/den < -1000000000)
   .simp_all
   .rw[p5 l4,p5 hb,Ri U U,a!,Ri U U,a!];generalize (!((!((s5 (c<0))==(s5 (num<0))))==(s5 (den<0))))=ng;obtain⟨x,hx⟩:∃x,c.natAbs=x:=⟨_,rfl⟩;obtain⟨y,k⟩:∃x,num.natAbs=x:=⟨_,rfl⟩;obtain⟨z,f⟩:∃x,den.natAbs=x:=⟨_,rfl⟩;have a:=Ri (n:=den) U U;rw[f]at a;rw[hx,k,f,a];have g:x<=1000000000000000:=U
    have bY:y<=1000000000:=U
    have d:z<=1000000000/\0<z:=U
    have b:x*y<=1000000000000000000000000:=P' (Vab g bY) o4;rw[R3 U U];simp only[a!];generalize x*y=p at b⊢;by_cases j:z<=p / 18446744073709551616
    .rw[J,if_neg];have h:=(Dz ng mode (p / z) (p % z) z).1;have h2:=NQ d.2 j;omega
    .rw[p5,ar4 U U];simp only[a!];have h:=Dz ng mode (p / z) (p % z) z;by_cases hq:p / z<=1000000000000000
     .rw[p5,xW _ _ U (Γ _ d.2) U,a!];by_cases i:Tt ng mode (p / z) (p % z) z<=1000000000000000
      .rw[p5,J i,OE _ U];rfl
      grind
     grind
 simp_all
theorem xO(c num den mode:Int):Xv c num den mode=M (mdS c num den mode):=by
 unfold Xv mdS;rw[uz,a!];by_cases hm:0<=mode/\mode<=5
 .rw[p5 l4,p5 (v!.2 hm)];by_cases o:den=0
  .simp_all
  .rw[p5 o,p5 o,qf U U,or3 (qf U U) (qf U U)];by_cases hb:(1000000000000000<c\/c < -1000000000000000)\/(1000000000<num\/num < -1000000000)\/(1000000000<den\/den < -1000000000)
   .simp_all
   .rw[p5 l4,p5 hb,sv U U,a!,sv U U,a!,sv U U,a!];generalize (!((!((s5 (c<0))==(s5 (num<0))))==(s5 (den<0))))=ng;obtain⟨x,hx⟩:∃x,c.natAbs=x:=⟨_,rfl⟩;obtain⟨y,r⟩:∃x,num.natAbs=x:=⟨_,rfl⟩;obtain⟨z,s⟩:∃x,den.natAbs=x:=⟨_,rfl⟩;rw[hx,r,s];have bx:x<=1000000000000000:=U
    have bY:y<=1000000000:=U
    have d:z<=1000000000/\0<z:=U
    have e0:x=z*(x / z)+x % z:=(Pab _ _).symm;have e1:x % z<z:=Γ _ d.2;have hdx:=Yab x z;have e:(b? (α:=Bool) (if 0<(y:Int)then(quo b! (x:Int) (z:Int)).bind λf=>(quo b! 1000000000000000 (y:Int)).bind λg=>M (s5 (g<f))else M a36) λj=>M j)=M (s5 (0<y/\1000000000000000 / y<x / z)):=by
     by_cases i:0<y
     .rw[J,jT d.2 U,a!,show(1000000000000000:Int)=((1000000000000000:Nat):Int)from rfl,jT i U];simp only[a!,i,G2];congr 1;grind
     grind
    have a:∀{α:Type} (k:Bool->Option α),(b? (α:=Bool) (if 0<(y:Int)then(quo b! (x:Int) (z:Int)).bind λf=>(quo b! 1000000000000000 (y:Int)).bind λg=>M (s5 (g<f))else M a36) k)=k (s5 (0<y/\1000000000000000 / y<x / z)):=by
     grind
    rw[a];have b:x*y=z*(x / z*y)+x % z*y:=by
     grind
    have hlo:x % z*y<=1000000000*1000000000:=Vab U bY;have l:(x*y) / z=x / z*y+x % z*y / z:=by
     rw[b,Nat.mul_add_div d.2]
    have m:(x*y) % z=x % z*y % z:=by
     simp
    by_cases ho:0<y/\1000000000000000 / y<x / z
    .rw[J o0,if_neg];have p:=(Dz ng mode (x*y / z) (x*y % z) z).1;have h2:1000000000000000<x / z*y:=(pac ho.1).1 ho.2
     grind
    .rw[p5 o0,V9 d.2,a!,jT d.2 U,a!];have hq:x / z*y<=1000000000000000:=by
      rcases Had y with h|h
      .grind
      .have q:x / z<=1000000000000000 / y:=by
        omega
       exact P' (Δ y q) (gad _ _)
     have c1:((x % z:Nat):Int)*(y:Int)=((x % z*y:Nat):Int):=l5
     have c2:((x / z:Nat):Int)*(y:Int)=((x / z*y:Nat):Int):=l5
     rw[c1,c2];have hdl:=Yab (x % z*y) z;clear c1 c2 b e a;generalize x / z*y=A at *;generalize x % z*y=L at *;rw[g! (n:=(L:Int)) U U,jT d.2 U,a!,V9 d.2,a!];generalize L / z=B at *;rw[g! (n:=(A:Int)) U U,g! U U,←Int.natCast_add,←l,←m];have p:=Dz ng mode (x*y / z) (x*y % z) z;rw[Xp _ _ U (Γ _ d.2) U,a!,qf U U,a!];have h2:=DT ng (Tt ng mode (x*y / z) (x*y % z) z)
     grind
 simp_all
theorem uC(n:Int):ko n=M (s5 (0<=n/\n<=5)):=by
 grind[ko]
theorem iu{n k:Int}(h1:0<=k) (h2:k<9223372036854775808):tm n k=M (s5 (k<n\/n < -k)):=by
 unfold tm;exact aQ7 (g! U U)
theorem Ak{n k:Int}(h1:0<=k) (h2:k<9223372036854775808):xg n k=M (s5 (k<n\/n < -k)):=by
 unfold xg;exact aQ7 (by rw[g! U U];omega)
theorem xI(c r mode:Int):vx c r mode=M (mdS c r 1000000 mode):=by
 grind[vx,fO]
theorem iQ(c r mode:Int):uy c r mode=M (mdS c r 1000000 mode):=by
 grind[uy,xO]
def K5(mode q r d:Int):Prop:=
 r≠0/\(mode=1\/(mode=2/\q<0)\/(mode=3/\0<=q)\/(mode=4/\(d-r<r\/(r=d-r/\0<=q)))\/(mode=5/\(d-r<r\/(r=d-r/\q % 2≠0))))
instance (mode q r d:Int):Decidable (K5 mode q r d):=by unfold K5;infer_instance
def vM(mode q r d:Int):Int:=if K5 mode q r d then q+1 else q
theorem ba1(q:Int):(v? q 2 !=0)=s5 (q % 2≠0):=by
 grind
theorem GD{q r:Int}(hq:-9223372036854775808<=q/\q<9223372036854775807) (hr:0<=r/\r<d) (hd:d<9223372036854775808):Fq q r d mode=M (vM mode q r d):=by
 unfold Fq vM;rw[g! (n:=d-r) U U,g! (n:=q+1) U U,ba1];by_cases a:r=0
 .rw[J a,p5 (by unfold K5;omega)]
 .rw[p5 a];unfold K5
  grind
theorem TZ(N d:Int) (hd:0<d):(v? N d<0->N / d=s? N d-1/\N % d=v? N d+d)/\(¬v? N d<0->N / d=s? N d/\N % d=v? N d):=by
 have a:=dae N d;have h2:=Gad N hd;have b:-d<v? N d:=by
  rcases Int.le_total 0 N with h|h
  .have:=Int.tmod_nonneg d h;omega
  .have:=Gad (-N) hd;rw[Int.neg_tmod]at this;omega
 generalize v? N d=r at a h2 b⊢;generalize s? N d=q at a⊢;constructor
 .intro h;have e:N=(r+d)+d*(q-1):=o0
  rw[e,Sac _ _ U,Cac,Nac U U,nad U U];omega
 .intro h;have e:N=r+d*q:=U
  rw[e,Sac _ _ U,Cac,Nac U U,nad U U];omega
theorem zG(hN:-9223372036854775807<=N/\N<=9223372036854775807) (hd:0<d) (hd2:d<9223372036854775808):tv N d=M (N / d,N % d):=by
 have hb:-9223372036854775807<=s? N d/\s? N d<=9223372036854775807:=by
  have:=Int.natAbs_tdiv_le_natAbs N d;omega
 obtain⟨f1,f2⟩:=TZ N d hd;have hr:=Oac N hd;have hr0:=Tac N (show d≠0 by omega);unfold tv quo rem;rw[p5,p5,a!,a!,g! (n:=s? N d) U U];by_cases c:v? N d<0
 .obtain⟨e1,e2⟩:=f1 c;rw[J c,g! U U,g! U U,e1,e2]
 grind
theorem nA(N:Int) (d:Nat) (mode:Int) (hd:0<d) (neg:Bool) (g:N=0\/neg=s5 (N<0)) (hm:0<=mode/\mode<=5) :
 GG neg (Tt neg mode (N.natAbs / d) (N.natAbs % d) d)=vM mode (N / d) (N % d) d:=by
 have m:=Pab N.natAbs d;have n:=Γ N.natAbs hd;obtain⟨a,ha⟩:∃a,N.natAbs / d=a:=⟨_,rfl⟩;obtain⟨b,hb⟩:∃a,N.natAbs % d=a:=⟨_,rfl⟩;rw[ha,hb]at m;rw[hb]at n;rw[ha,hb];by_cases hN:0<=N
 .have e1:N=(N.natAbs:Int):=U
  have q1:N / (d:Int)=(a:Int):=o0
  have i:N % (d:Int)=(b:Int):=o0
  rw[q1,i];have hn:b=0\/neg=a36:=by
   grind
  have key:xM neg mode a b d↔K5 mode a b d:=by
   unfold xM K5
   grind
  have p:∀k:Nat,(b=0->k=a)->GG neg k=(k:Int):=λk hk=>by
   unfold GG;rcases hn with h|h
   .have h0:a=0\/neg=a36:=by
     rcases g with o|o
     .left;subst o;simp at ha;omega
     grind
    grind
   grind
  unfold Tt vM;by_cases c:xM neg mode a b d
  .rw[J c,J (key.1 c)];rw[p _ (λl=>absurd c (by rw[l];unfold xM;omega))];omega
  grind
 .have e1:N = -(N.natAbs:Int):=U
  have hn:neg=a35:=by
   grind
  subst hn;have f:N = -((d:Int)*a+b):=U
  unfold GG;simp only[w3];by_cases j:b=0
  .have q1:N / (d:Int) = -(a:Int):=by
    rw[f,j];simp only[vad,Int.add_zero];rw[←Int.mul_neg,Int.mul_ediv_cancel_left _ U]
   have i:N % (d:Int)=0:=by
    rw[f,j];simp
   rw[q1,i];unfold Tt vM;rw[p5 (by rw[j];unfold xM;omega),p5 (by simp[K5])]
  .have e:N=((d:Int)-b)+d*(-(a:Int)-1):=o0
   have q1:N / (d:Int) = -(a:Int)-1:=by
    rw[e,Sac _ _ U,Nac U U];omega
   have i:N % (d:Int)=(d:Int)-b:=by
    rw[e,Cac,nad U U]
   rw[q1,i];have key:xM a35 mode a b d↔¬K5 mode (-(a:Int)-1) ((d:Int)-b) d:=by
    unfold xM K5 at *
    grind
   grind[Tt,vM]
def VV(a b mode:Int):Int×Int:=
 if¬(0<=mode/\mode<=5)then(0,1)else
 if(1000000000<a\/a < -1000000000)\/(1000000000<b\/b < -1000000000)then(0,3)else
 if 1000000000<vM mode (a*b / 1000000) (a*b % 1000000) 1000000\/vM mode (a*b / 1000000) (a*b % 1000000) 1000000 < -1000000000 then(0,3)else
 (vM mode (a*b / 1000000) (a*b % 1000000) 1000000,0)
theorem nR{a b:Int}(h1:¬(1000000000<a\/a < -1000000000)) (h2:¬(1000000000<b\/b < -1000000000)):-1000000000000000000<=a*b/\a*b<=1000000000000000000:=by
 have:=Vab (show a.natAbs<=1000000000 by omega) (show b.natAbs<=1000000000 by omega);rw[←Kad]at this;omega
theorem sO(a b mode:Int):RE a b mode=M (VV a b mode):=by
 unfold RE VV;rw[uC,a!];by_cases hm:0<=mode/\mode<=5
 .rw[p5 l4,p5 (v!.2 hm),iu U U,or2 (iu U U)];by_cases hb:(1000000000<a\/a < -1000000000)\/(1000000000<b\/b < -1000000000)
  .simp_all
  .rw[p5 l4,p5 hb,Ah];have c:=nR (λh=>hb (.inl h)) (λh=>hb (.inr h));generalize a*b=p at c⊢;rw[g! U U];have d:GG (!(s5 (p<0)==s5 ((1000000:Int)<0))) (Tt (!(s5 (p<0)==s5 ((1000000:Int)<0))) mode (p.natAbs / 1000000) (p.natAbs % 1000000) 1000000)=vM mode (p / 1000000) (p % 1000000) 1000000:=nA p 1000000 mode o4 (!(s5 (p<0)==s5 ((1000000:Int)<0))) (.inr l5) hm;unfold OQ;rw[p5 (v!.2 hm),p5 o4,p5];simp only[a!];rw[show(1000000:Int).natAbs=1000000 from rfl,d,p5 l5,iu U U,a!]
   grind
 simp_all
theorem N3{n:Int}:(b? (α:=Bool) (if¬n<0 then M (s5 (5<n))else M a35) k)=k (s5 (¬(0<=n/\n<=5))):=by
 grind
theorem gZ(mode q r d:Int):q<=vM mode q r d/\vM mode q r d<=q+1:=by grind[vM]
theorem lW(a b mode:Int):wC a b mode=M (VV a b mode):=by
 unfold wC VV;rw[N3];by_cases hm:0<=mode/\mode<=5
 .rw[p5 l4,p5 (v!.2 hm),Ak U U,or2 (Ak U U)];by_cases hb:(1000000000<a\/a < -1000000000)\/(1000000000<b\/b < -1000000000)
  .simp_all
  .rw[p5 l4,p5 hb];have c:=nR (λh=>hb (.inl h)) (λh=>hb (.inr h));generalize a*b=p at c⊢;rw[g! U U,zG U U U,a!];simp only[];rw[GD U U U,a!,Ak U U,a!]
   grind
 simp_all
def frS(num den mode:Int):Int×Int:=
 if¬(0<=mode/\mode<=5)then(0,1)else
 if den=0 then(0,12)else
 if(1000000000000000<num\/num < -1000000000000000)\/(1000000000000000<den\/den < -1000000000000000)then(0,3)else
 if Tt (!(s5 (num<0)==s5 (den<0))) mode (num.natAbs*1000000 / den.natAbs) (num.natAbs*1000000 % den.natAbs) den.natAbs<=1000000000 then
  (GG (!(s5 (num<0)==s5 (den<0))) (Tt (!(s5 (num<0)==s5 (den<0))) mode (num.natAbs*1000000 / den.natAbs) (num.natAbs*1000000 % den.natAbs) den.natAbs),0)
 else(0,3)
theorem DZ{q d:Nat}(neg:Bool) (mode:Int) (hr:r<d) (hd:d<9223372036854775808):ju q r d neg mode=M (s5 (xM neg mode q r d)):=by
 unfold ju;rw[wuN (n:=(d:Int)-r) U U,VZ,bl8];by_cases a:r=0
 .subst a;rw[J (by rfl)];congr 1;symm;rw[decide_eq_false_iff_not];unfold xM;omega
 .rw[p5];unfold xM;have hp:0<r:=U
  by_cases e0:mode=0
  .simp_all
  by_cases e1:mode=1
  .simp_all
  by_cases e3:mode=3
  .simp_all
  by_cases e4:mode=4
  .subst e4;simp;omega
  grind
theorem rM{n:Int}(h1:-9223372036854775808<n) (h2:n<9223372036854775808):aa .u64 (max n (aa b! (-n)))=((n.natAbs:Nat):Int):=by
 grind[g!,wuN]
theorem tC(num den mode:Int):Qr num den mode=M (frS num den mode):=by
 unfold Qr frS;rw[uC,a!];by_cases hm:0<=mode/\mode<=5
 .rw[p5 l4,p5 (v!.2 hm)];by_cases e:den=0
  .simp_all
  .rw[p5 e,p5 e,iu U U,or2 (iu U U)];by_cases hb:(1000000000000000<num\/num < -1000000000000000)\/(1000000000000000<den\/den < -1000000000000000)
   .simp_all
   .rw[p5 l4,p5 hb,rM U U,rM U U];have a:(¬(s5 (num<0))=(s5 (den<0)))↔(!(s5 (num<0)==s5 (den<0)))=a35:=by
     simp
    generalize (!(s5 (num<0)==s5 (den<0)))=ng at a⊢;obtain⟨x,hx⟩:∃x,num.natAbs=x:=⟨_,rfl⟩;obtain⟨z,h⟩:∃x,den.natAbs=x:=⟨_,rfl⟩;rw[hx,h];have bx:x<=1000000000000000:=U
    have d:z<=1000000000000000/\0<z:=U
    rw[show(1000000:Int)=((1000000:Nat):Int)from rfl,R3 U U];simp only[a!];have b:x*1000000<=1000000000000000000000:=U
    generalize x*1000000=p at b⊢;by_cases g:z<=p / 18446744073709551616
    .rw[J,if_neg];have f:=(Dz ng mode (p / z) (p % z) z).1;have h2:=NQ d.2 g;omega
    .rw[p5,ar4 U U];simp only[a!];have f:=Dz ng mode (p / z) (p % z) z;by_cases hq:p / z<=1000000000
     .rw[p5,DZ _ _ (Γ _ d.2) U,g! (n:=((p / z:Nat):Int)) U U,g! (n:=((p / z:Nat):Int)+1) U U];simp only[a!,w2];have hfin:∀R:Nat,R<=1000000001->(if(1000000000:Int)<(R:Int)then M ((0:Int),(3:Int))else b? (α:=Int) (if¬(s5 (num<0))=(s5 (den<0))then M (aa b! (-(R:Int)))else M (R:Int)) λc=>M (c,0))=M (if R<=1000000000 then(GG ng R,0)else(0,3)):=by
       intro R hR;by_cases hr:R<=1000000000
       .rw[p5,J hr];unfold GG;by_cases hn:ng=a35
        .rw[J (a.2 hn),J hn,a!,g! U U]
        simp_all
       grind
      grind[Tt]
     grind
 simp_all
theorem NT(N d:Int) (hd:0<d) :
 N*1000000 / d=N / d*1000000+N % d*1000 / d*1000+N % d*1000 % d*1000 / d/\N*1000000 % d=N % d*1000 % d*1000 % d:=by
 have h1:=Eac N d;have h2:=Eac (N % d*1000) d;have h3:=Eac (N % d*1000 % d*1000) d;have h4:=Oac (N % d*1000 % d*1000) hd;have h5:=Tac (N % d*1000 % d*1000) (show d≠0 by omega);generalize N % d*1000 % d*1000 % d=c at *;generalize N % d*1000 % d*1000 / d=b at *;generalize N % d*1000 % d=r1 at *;generalize N % d*1000 / d=a at *;generalize N % d=r at *;generalize N / d=q at *;have e:N*1000000=c+d*(q*1000000+a*1000+b):=by
  grind
 rw[e,Sac _ _ U,Cac,Nac U U,nad U U];omega
theorem bx7{a b:Int}(ha:0<=a/\a<9223372036854775808) (hb:0<b):quo b! a b=M (a / b):=by
 obtain⟨x,rfl⟩:=W! ha.1;obtain⟨y,rfl⟩:=W! (Zae hb)
 grind[jT]
theorem bx1{a b:Int}{k:IntKind}(ha:0<=a) (hb:0<b):rem k a b=M (a % b):=by
 obtain⟨x,rfl⟩:=W! ha;obtain⟨y,rfl⟩:=W! (Zae hb)
 grind[V9]
theorem yI(num den mode:Int):Yp num den mode=M (frS num den mode):=by
 unfold Yp frS;rw[N3];by_cases hm:0<=mode/\mode<=5
 .rw[p5 l4,p5 (v!.2 hm)];by_cases k:den=0
  .simp_all
  .rw[p5 k,p5 k,Ak U U,or2 (Ak U U)];by_cases hb:(1000000000000000<num\/num < -1000000000000000)\/(1000000000000000<den\/den < -1000000000000000)
   .simp_all
   .rw[p5 l4,p5 hb];obtain⟨N,hN⟩:∃N,(if den<0 then -num else num)=N:=⟨_,rfl⟩;obtain⟨d,hd⟩:∃d,den.natAbs=d:=⟨_,rfl⟩;have a2:d<=1000000000000000/\0<d:=U
    have i:(if den<0 then M ((aa b! (0-num)),(aa b! (0-den)))else M (num,den))=M (N,(d:Int)):=by
     by_cases c:den<0
     .rw[J c]at hN⊢;grind[g!]
     grind
    rw[i,a!];simp only[];have h:(N*1000000).natAbs=num.natAbs*1000000:=U
    have g:N*1000000=0\/(!(s5 (num<0)==s5 (den<0)))=s5 (N*1000000<0):=by
     grind
    have e:=nA (N*1000000) d mode a2.2 (!(s5 (num<0)==s5 (den<0))) g hm;rw[h]at e;rw[hd];obtain⟨t1,t2⟩:=NT N d U;rw[t1,t2]at e;have hNb:-1000000000000000<=N/\N<=1000000000000000:=U
    have hdm:=Eac N d;have hr1:=Oac N (show(0:Int)<d by omega);have hr0:=Tac N (show(d:Int)≠0 by omega);have big:(1001<N / d\/N / d < -1001)->¬Tt (!(s5 (num<0)==s5 (den<0))) mode (num.natAbs*1000000 / d) (num.natAbs*1000000 % d) d<=1000000000:=by
     intro hb j;have h2:=P' (Dz (!(s5 (num<0)==s5 (den<0))) mode (num.natAbs*1000000 / d) (num.natAbs*1000000 % d) d).1 j;have h3:=Pab (num.natAbs*1000000) d;have h4:=Γ (num.natAbs*1000000) a2.2;have h5:=Nat.mul_le_mul_left d h2;have h6:num.natAbs=N.natAbs:=U
     rcases hb with hb|hb
     .have l:(d:Int)*1002<=d*(N / d):=uad U U;omega
     .have l:(d:Int)*(N / d)<=d*(-1002):=uad U U;omega
    rw[zG U U U,a!];simp only[];generalize Tt (!(s5 (num<0)==s5 (den<0))) mode (num.natAbs*1000000 / d) (num.natAbs*1000000 % d) d=R at e big⊢;generalize (!(s5 (num<0)==s5 (den<0)))=ng at e⊢;clear t1 t2;generalize hqq:N / (d:Int)=q at *;generalize hrr:N % (d:Int)=r at *;rw[Ak U U,a!];by_cases hq:1001<q\/q < -1001
    .simp_all
    .rw[p5 l4];have ha:=cae (a:=r*1000) (b:=1000) (c:=d) U U;have ha0:=Lae (a:=r*1000) (b:=d) U U;have s1:=Oac (r*1000) (show(0:Int)<d by omega);have s0:=Tac (r*1000) (show(d:Int)≠0 by omega);rw[g! (n:=r*1000) U U,bx7 U U,a!,bx1 U U,a!];generalize r*1000 % (d:Int)=f at *;generalize r*1000 / (d:Int)=a at *;have hb:=cae (a:=f*1000) (b:=1000) (c:=d) U U;have hb0:=Lae (a:=f*1000) (b:=d) U U;have u1:=Oac (f*1000) (show(0:Int)<d by omega);have u0:=Tac (f*1000) (show(d:Int)≠0 by omega);rw[g! (n:=f*1000) U U,bx7 U U,a!,bx1 U U,a!];generalize f*1000 % (d:Int)=r2 at *;generalize f*1000 / (d:Int)=b at *;rw[g! (n:=q*1000000) U U,g! (n:=a*1000) U U,g! (n:=q*1000000+a*1000) U U,g! (n:=q*1000000+a*1000+b) U U,GD U U U,a!,←e,Ak U U,a!];have h2:=DT ng R
     grind
 simp_all
def rtS(c unit mode:Int):Int×Int:=
 if¬(0<=mode/\mode<=5)then(0,1)else
 if unit<1 then(0,12)else
 if(1000000000000000<c\/c < -1000000000000000)\/1000000000000000<unit then(0,3)else
 if 1000000000000000<GG (s5 (c<0)) (Tt (s5 (c<0)) mode (c.natAbs / unit.natAbs) (c.natAbs % unit.natAbs) unit.natAbs)*unit\/GG (s5 (c<0)) (Tt (s5 (c<0)) mode (c.natAbs / unit.natAbs) (c.natAbs % unit.natAbs) unit.natAbs)*unit < -1000000000000000 then(0,3)else
 (GG (s5 (c<0)) (Tt (s5 (c<0)) mode (c.natAbs / unit.natAbs) (c.natAbs % unit.natAbs) unit.natAbs)*unit,0)
theorem AW{c unit:Int}{ng:Bool}(hc:¬(1000000000000000<c\/c < -1000000000000000)) (hu:1<=unit/\unit<=1000000000000000):-2000000000000000<=GG ng (Tt ng mode (c.natAbs / unit.natAbs) (c.natAbs % unit.natAbs) unit.natAbs)*unit/\GG ng (Tt ng mode (c.natAbs / unit.natAbs) (c.natAbs % unit.natAbs) unit.natAbs)*unit<=2000000000000000:=by
 have a:=(Dz ng mode (c.natAbs / unit.natAbs) (c.natAbs % unit.natAbs) unit.natAbs).2;have h2:(GG ng (Tt ng mode (c.natAbs / unit.natAbs) (c.natAbs % unit.natAbs) unit.natAbs)*unit).natAbs<=2000000000000000:=by
  rw[Kad,DT];have h3:=Δ unit.natAbs a;have h4:=gad c.natAbs unit.natAbs
  grind
 omega
theorem bz1{a b:Prop} [Decidable a] [Decidable b] :(b? (α:=Bool) ((M (decide a)).bind λx=>if x=a36 then M (decide b)else M a35) k)=k (s5 (a\/b)):=by
 grind
theorem ED(c unit mode:Int):fu c unit mode=M (rtS c unit mode):=by
 unfold fu rtS;rw[Vv,a!];by_cases hm:0<=mode/\mode<=5
 .rw[p5 l4,p5 (v!.2 hm)];by_cases d:unit<1
  .simp_all
  .rw[p5 d,p5 d,xk U U,bz1];by_cases hb:(1000000000000000<c\/c < -1000000000000000)\/1000000000000000<unit
   .simp_all
   .rw[p5 l4,p5 hb,Ah];have a:=AW (c:=c) (unit:=unit) (mode:=mode) (ng:=s5 (c<0)) (λh=>hb (.inl h)) U;unfold OQ;rw[p5 (v!.2 hm),p5,p5];have hu:s5 (unit<0)=a36:=o0
    simp only[a!,hu];have b:(!(s5 (c<0)==a36))=s5 (c<0):=l5
    rw[b];generalize GG (s5 (c<0)) (Tt (s5 (c<0)) mode (c.natAbs / unit.natAbs) (c.natAbs % unit.natAbs) unit.natAbs)*unit=q at a⊢;rw[p5 l5,g! U U,xk U U,a!]
    grind
 simp_all
theorem ML(c unit mode:Int):ku c unit mode=M (rtS c unit mode):=by
 unfold ku rtS;rw[uz,a!];by_cases hm:0<=mode/\mode<=5
 .rw[p5 l4,p5 (v!.2 hm)];by_cases b:unit<1
  .simp_all
  .rw[p5 b,p5 b,qf U U,bz1];by_cases hb:(1000000000000000<c\/c < -1000000000000000)\/1000000000000000<unit
   .simp_all
   .rw[p5 l4,p5 hb,sv U U,a!];have a:=AW (c:=c) (unit:=unit) (mode:=mode) (ng:=s5 (c<0)) (λh=>hb (.inl h)) U;obtain⟨u,rfl⟩:=W! (show 0<=unit by omega);have hl:=Yab c.natAbs u;rw[jT U U,a!,V9 U,a!,Xp _ _ U (Γ _ U) U,a!];rw[show(Int.natAbs (u:Int))=u from rfl]at a⊢;generalize GG (s5 (c<0)) (Tt (s5 (c<0)) mode (c.natAbs / u) (c.natAbs % u) u)*(u:Int)=q at a⊢;rw[g! U U,qf U U,a!]
    grind
 simp_all
theorem SE(hl:l.length<=1048576):∃r,tt l x=M r/\r.length<=l.length+1/\∀y,y∈r↔y∈l\/y=x:=by
 unfold tt;have hf:∀(p:Int->Bool) i,((l.take i).filter p).length<=l.length:=λp i=>by
  grind
 have e1:=kz (step:=aq l x) (l:=l) rfl (λl=>l.filter λy=>s5 (y<x)) [] (λi hi=>by
  have a:=hf (λy=>s5 (y<x)) i;rw[Gb hi,ι];have ha:=me (b:=8) (show(((l.take i).filter λy=>s5 (y<x)).length + [l[i]].length)*8<=140737488355328 by grind);generalize ((l.take i).filter λy=>s5 (y<x))=w at *;unfold aq;dsimp only;rw[J,wa hi,a!,pa U,N']
  grind) (λy=>by grind[aq]) rfl
 rw[N']at e1;rw[e1,a!];dsimp only;have h0:=Ο (λy=>s5 (y<x)) l;rw[me o0,a!];have e2:=kz (step:=Zp l x) (l:=l) rfl (λl=>l.filter λy=>s5 (x<y)) ((l.filter λy=>s5 (y<x))++[x]) (λi hi=>by
  have a:=hf (λy=>s5 (x<y)) i;rw[Gb hi,ι];have ha:=me (b:=8) (show((((l.filter λy=>s5 (y<x))++[x])++((l.take i).filter λy=>s5 (x<y))).length + [l[i]].length)*8<=140737488355328 by grind);generalize ((l.take i).filter λy=>s5 (x<y))=w at *;generalize ((l.filter λy=>s5 (y<x))++[x])=w0 at *;unfold Zp;dsimp only;rw[J,wa hi,a!,pa U]
  grind) (λy=>by grind[Zp]) rfl
 rw[e2];refine⟨_,rfl,?_,λy=>?_⟩
 .have k:∀l:List Int,(l.filter λy=>s5 (y<x)).length+(l.filter λy=>s5 (x<y)).length<=l.length:=by
   intro l
   induction l with
   |nil=>simp
   |cons y l ih=>
    grind
  grind
 grind
theorem jH{l:List hO}(hl:l.length<=65536):∃r,qo l=M r/\r.length<=2*l.length/\∀y,y∈r↔y∈u! l:=by
 unfold qo;obtain⟨b,h1,h2,h3⟩:=KV (step:=xj l) (λj s=>s.2=(j:Int)/\s.1.length<=2*j/\∀y,y∈s.1↔y∈u! (l.take j)) l.length (λb=>b.length<=2*l.length/\∀y,y∈b↔y∈u! l) (λj s hj ⟨a,c,d⟩=>by
  obtain⟨s,jj⟩:=s;dsimp only at a c d;subst a;unfold xj;dsimp only;rw[J,wa hj,a!,ZJ,a!,pa U];have hm:∀y,y∈u! (l.take (j+1))↔y∈u! (l.take j)\/(pR l[j]=a35/\(y=l[j].j\/y=l[j].To)):=λy=>by
   grind[u!,Gb,xN]
  cases hb:pR l[j]
  .exact⟨_,by rw[p5 l5];rfl,rfl,o0,λy=>l4⟩
  .obtain⟨f,a1,a2,a3⟩:=SE (l:=s) (x:=l[j].j) U;obtain⟨r2,e,b2,b3⟩:=SE (l:=f) (x:=l[j].To) U;refine⟨_,by rw[J rfl,a1,a!,e,a!,a!],rfl,o0,λy=>?_⟩
   grind) (λs ⟨a,c,d⟩=>by
  simp_all[xj]) l.length 0 ([],0) U ⟨rfl,l5,by simp[u!]⟩
 simp_all
theorem CO(hq:q.length<=1048576):fw q=M (q.filter Ij):=by
 unfold fw;have e2:=kz (step:=jq q) (l:=q) rfl (λl=>l.filter Ij) [] (λi hi=>by
  have h1:=Ο Ij (q.take i);have h2:(q.take i).length<=q.length:=o0
  rw[Gb hi,ι];have ha:=me (b:=8) (show(((q.take i).filter Ij).length + [q[i]].length)*8<=140737488355328 by grind);generalize ((q.take i).filter Ij)=w at *;unfold jq;dsimp only;rw[J,wa hi,a!,pa U]
  grind[Ij]) (λx=>by grind[jq]) rfl
 simp_all
theorem fG{l:cb}(h:E! l):∃r,Se l=M r/\r.length<=65536/\∀y,y∈r↔y∈(Vd (u! (Wy l.Tables++Uy l.e))).filter Ij:=by
 have hnt:=h.nt;have hns:=h.ns;have h1:=xA h.t;have h2:=sA h.s;unfold Se;rw[rW h,a!];dsimp only;rw[qW h U,a!];dsimp only;obtain⟨r,a1,a2,a3⟩:=jH (l:=Wy l.Tables++Uy l.e) o0;rw[Χ]at a2;rw[a1,a!,CO U];have:=Ο Ij r;refine⟨_,rfl,U,λy=>?_⟩
 grind[Mf]
theorem VE(hl:l.length<=1048576):∃r,Jm l x=M r/\r.length<=l.length+1/\∀y,y∈r↔y∈l\/y=x:=by
 unfold Jm;obtain⟨⟨b,d⟩,c,h2,h⟩:=KV (step:=sq l x) (λj s=>s.2.2=(j:Int)/\s.1.length<=j+(if s.2.1=a35 then 1 else 0)/\∀y,y∈s.1↔y∈l.take j\/(s.2.1=a35/\y=x)) l.length (λb=>b.1.length<=l.length+(if b.2=a35 then 1 else 0)/\∀y,y∈b.1↔y∈l\/(b.2=a35/\y=x)) (λj s hj ⟨e,f,g⟩=>by
  obtain⟨s,d,jj⟩:=s;dsimp only at e f g;subst e;have hs:s.length<=j+1:=o0
  unfold sq;dsimp only;rw[J,wa hj,pa U];have ha1:=me (b:=8) (l:=s) (r:=[x]) o0;have a:=me (b:=8) (l:=s) (r:=[l[j]]) o0;have ha3:=me (b:=8) (l:=s++[x]) (r:=[l[j]]) o0;have ht:∀y,y∈l.take (j+1)↔y∈l.take j\/y=l[j]:=λy=>by grind[Gb]
  cases d with
  |true=>
   refine⟨_,by simp[a];rfl,l5,l4,λy=>?_⟩
   grind
  |false=>
   simp at f g;by_cases c:x<=l[j]
   .by_cases h2:x<l[j]
    .refine⟨(s++[x]++[l[j]],a35,((j+1:Nat):Int)),l4,rfl,l4,λy=>?_⟩
     grind
    .have hx:x=l[j]:=U
     simp_all
   .refine⟨_,by simp[c,a];rfl,l5,l4,λy=>?_⟩
    simp_all) (λs ⟨e,f,g⟩=>by
  simp_all[sq]) l.length 0 ([],a36,0) U ⟨rfl,l5,l5⟩
 rw[c,a!];dsimp only at h2 h⊢
 cases d with
 |true=>simp_all
 |false=>
  simp at h2 h;rw[J rfl,me o0,a!]
  simp_all
theorem gG{l:List kv}(t1:Int) (hl:l.length<=65536):∃r,Ue l t1=M r/\r.length<=2*l.length/\∀y,y∈r↔y∈(Vd (u! (BH t1 l))).filter Ij:=by
 unfold Ue;obtain⟨b,h,h2,h3⟩:=KV (step:=Ai l t1) (λj s=>s.2=(j:Int)/\s.1.length<=2*j/\∀y,y∈s.1↔y∈u! (BH t1 (l.take j))/\Ij y=a35) l.length (λb=>b.length<=2*l.length/\∀y,y∈b↔y∈u! (BH t1 l)/\Ij y=a35) (λj s hj ⟨c,f,g⟩=>by
  obtain⟨s,jj⟩:=s;dsimp only at c f g;subst c;unfold Ai;dsimp only;rw[J,wa hj,pa U];simp only[a!,DC];have hm:∀y,y∈u! (BH t1 (l.take (j+1)))↔y∈u! (BH t1 (l.take j))\/(U' t1 l[j]=a35/\(y=l[j].aa.j\/y=l[j].aa.To)):=λy=>by
   grind[U',BH,u!,Gb,xN]
  cases hk:U' t1 l[j]with
  |false=>
   refine⟨(s,((j+1:Nat):Int)),?_,rfl,o0,λy=>l4⟩
   grind[U']
  |true=>
   have hk':=hk;unfold U' at hk;simp at hk;obtain⟨hr,hn⟩:=hk;have a:=hn;unfold pR at hn;simp at hn;rw[J];simp only[a,γ,a!,t!,s7];obtain⟨r1,a1,a2,a3⟩:=VE (l:=s) (x:=l[j].aa.j) U;have hd1:∀y,y=l[j].aa.j->(Ij y=a35↔1<=l[j].aa.j):=λy i=>by grind[Ij]
   have hd2:∀y,y=l[j].aa.To->(Ij y=a35↔l[j].aa.To<=109572):=λy i=>by grind[Ij]
   obtain⟨q,q1,q2,q3⟩:∃q,(if 1<=l[j].aa.j then(Jm s l[j].aa.j).bind λd=>M d else M s)=M q/\q.length<=s.length+1/\∀y,y∈q↔y∈s\/(y=l[j].aa.j/\Ij y=a35):=by
    grind
   rw[q1,a!];obtain⟨r2,b1,b2,b3⟩:=VE (l:=q) (x:=l[j].aa.To) U;obtain⟨p,k,p2,p3⟩:∃p,(if l[j].aa.To<=109572 then(Jm q l[j].aa.To).bind λe=>M e else M q)=M p/\p.length<=q.length+1/\∀y,y∈p↔y∈q\/(y=l[j].aa.To/\Ij y=a35):=by
    grind
   rw[k,a!]
   grind) (λs ⟨c,f,g⟩=>by
  simp_all[Ai]) l.length 0 ([],0) U ⟨rfl,l5,by simp[u!,BH]⟩
 rw[h];refine⟨b,rfl,h2,λy=>?_⟩
 grind[Mf]
theorem jR{σ β ρ:Type}{step:σ->Option (Ex σ β ρ)}(I:σ->Prop) (a:σ->Nat) (Q:β->Prop) (h:∀s,I s->(∃s',step s=M (.go s')/\I s'/\a s'<a s)\/∃b,step s=M (.brk b)/\Q b) :
 ∀(n:Nat) (s:σ),a s<=n->I s->∃b,ca step s=M (.inl b)/\Q b
 |0,s,hn,hi=>by
  grind[Ob]
 |n+1,s,hn,hi=>by
  rcases h s hi with⟨s',c,h2,h3⟩|⟨b,c,h2⟩
  .obtain⟨b,h4,h5⟩:=jR I a Q h n s' U h2
   grind[Ie]
  grind[Ob]
theorem wu{n:Int}(h1:0<=n) (h2:n<9223372036854775808):aa .u64 n=n:=by
 grind[aa]
theorem mid{i:Nat}(h:i+j<4611686018427387904):aa b! (Int.fdiv (aa .u64 (aa b! ((i:Int)+(j:Int)))) 2)=(((i+j) / 2:Nat):Int):=by
 grind[g!,wu]
theorem eY(x y:Int):B? x y=M (s5 (x<y)):=by
 grind[B?,A?]
theorem af1{t:Int}(hq:q.Pairwise (·<·)) (hl:q.length<=1048576):∃(k:Nat) (b:Bool),Kd q t=M ((k:Int),b)/\k<=q.length/\(∀i (hi:i<q.length),i<k->q[i]<t)/\∀i (hi:i<q.length),k<=i->t<=q[i]:=by
 have f:=Dab.1 hq;unfold Kd;obtain⟨b,g,k,rfl,h2,a,c⟩:=jR (step:=Be q t) (λs=>∃i j:Nat,s=((i:Int),(j:Int))/\i<=j/\j<=q.length/\(∀p (f:p<q.length),p<i->q[p]<t)/\∀p (f:p<q.length),j<=p->t<=q[p]) (λs=>(s.2-s.1).toNat) (λb=>∃k:Nat,b=(k:Int)/\k<=q.length/\(∀i (hi:i<q.length),i<k->q[i]<t)/\∀i (hi:i<q.length),k<=i->t<=q[i]) (by
  rintro s ⟨i,j,rfl,a1,a2,a3,a4⟩;unfold Be;dsimp only;by_cases hij:i<j
  .left;rw[J,mid U,wa (show(i+j) / 2<q.length by omega),a!,eY,a!];by_cases hx:q[(i+j) / 2]' U<t
   .refine⟨_,by rw[J l4,pa U],⟨(i+j) / 2+1,j,rfl,U,a2,λp d e=>?_,a4⟩,U⟩
    grind
   .refine⟨_,o0,⟨i,(i+j) / 2,rfl,U,U,a3,λp d e=>?_⟩,U⟩
    grind
  grind) q.length (0,(q.length:Int)) l5 ⟨0,q.length,rfl,U,U,U,U⟩
 rw[g,a!];dsimp only;unfold Po;by_cases hk:k<q.length
 .rw[J,wa hk,a!];by_cases he:q[k]=t
  .exact⟨k,a35,o0,h2,a,c⟩
  .exact⟨k,a36,o0,h2,a,c⟩
 .exact⟨k,a36,o0,h2,a,c⟩
def qy(to:Int):Int->List Int->List hO
 |a,[]=>[⟨a,to⟩]
 |a,x::l=>⟨a,x⟩::qy to x l
theorem WJ{to:Int}:∀{a:Int}{l:List Int},(qy to a l).length=l.length+1
 |_,[]=>rfl
 |_,x::l=>by simp[qy,WJ (a:=x) (l:=l)]
def C!(r:hO) (x:Int):Bool:=s5 (r.j<x)&&s5 (x<r.To)
theorem jE{r:hO}(hq:q.Pairwise (·<·)) (hl:q.length<=65536) (hr:0<=r.j/\r.j<r.To/\r.To<=1000000):cp r q=M (qy r.To r.j (q.filter (C! r))):=by
 unfold cp;rw[g! U U];obtain⟨k,b,e,h2,h3,h4⟩:=af1 (t:=r.j+1) hq U;rw[e,a!];dsimp only;have hp:=Dab.1 hq;have hf:q.filter (C! r)=(q.drop k).filter λx=>s5 (x<r.To):=by
  conv=>lhs;rw[←List.take_append_drop k q]
  rw[ι];have e1:(q.take k).filter (C! r)=[]:=by
   rw[Bac];intro x hx;obtain⟨i,hi,rfl⟩:=H' hx
   grind[C!]
  rw[e1,N'];refine List.filter_congr λx hx=>?_;obtain⟨i,hi,rfl⟩:=H' hx
  grind[C!]
 rw[hf];obtain⟨⟨s2,h⟩,g1,g2,g3⟩:=jR (step:=Au r q) (λs=>∃j:Nat,s.2.2=(j:Int)/\j<=q.length/\s.2.1.length<=j/\qy r.To r.j ((q.drop k).filter λx=>s5 (x<r.To))=s.2.1++qy r.To s.1 ((q.drop j).filter λx=>s5 (x<r.To))) (λs=>((q.length:Int)-s.2.2).toNat) (λb=>b.2.length<=q.length/\qy r.To r.j ((q.drop k).filter λx=>s5 (x<r.To))=b.2++[⟨b.1,r.To⟩]) (by
  rintro⟨s2,h,s4⟩ ⟨j,d,f,g,c⟩;dsimp only at d f g c;subst d;unfold Au;dsimp only;by_cases hj:j<q.length
  .rw[J,wa hj,a!,a!];have hd:q.drop j=q[j]::q.drop (j+1):=Yaa hj;by_cases hx:q[j]<r.To
   .left;refine⟨_,by rw[J o0,a!,me o0,a!,pa U],⟨j+1,rfl,U,o0,?_⟩,o0⟩
    grind[qy]
   .right;refine⟨_,by rw[p5 o0],o0,?_⟩;dsimp only;have:(q.drop j).filter (λx=>s5 (x<r.To))=[]:=by
     rw[Bac];intro x a;obtain⟨i,hi,rfl⟩:=H' a
     grind
    rw[c,this];rfl
  .right;refine⟨_,by rw[p5];rfl,o0,?_⟩;dsimp only;rw[c,List.drop_eq_nil_of_le U];rfl) q.length (r.j,[],(k:Int)) l5 ⟨k,rfl,h2,l5,l5⟩
 grind[me]
theorem VM(x:Int) (hl:l.length<=1048576):Jo l x=M (l.contains x):=by
 unfold Jo;have h:=xb (step:=Mm l x) (x0:=0) (λi=>(i:Int)) (λi=>if(l[i]?.any λy=>y==x)=a35 then M a35 else q6) l.length () (λi hi _=>by
  unfold Mm;rw[J,wa hi,a!,pa U,n! hi]
  grind[UD]) (λ_=>by grind[Mm])
 rw[h];have h2:=Rv (l:=l) (q:=λy=>y==x) (g:=λ_=>a35);have b:l.contains x=l.any λy=>y==x:=by
  grind
 rw[b,←h2]
 cases hf:ff (λi=>if(l[i]?.any λy=>y==x)=a35 then M a35 else q6) l.length with
 |none=>rfl
 |some v=>
  obtain⟨j,-,a,-⟩:=Oa.1 hf;split at a
  .injection a with a;subst a;rfl
  simp_all
theorem MO{a b:List Int}{r:hO}(hq:q.Pairwise (·<·)) (ha:a.length<=1048576) (hb:b.length<=1048576) (hm:∀x,x∈q↔x∈a\/x∈b) (hr:0<=r.j/\r.j<r.To/\r.To<=1000000):uw r a b=M (qy r.To r.j (q.filter (C! r))):=by
 unfold uw;rw[g! U U];obtain⟨⟨s2,s3⟩,g1,g2,g3⟩:=jR (step:=Hu r a b) (λs=>r.j<s.2.2/\s.2.2<=r.To/\s.1.length<=(s.2.2-r.j).toNat/\qy r.To r.j (q.filter (C! r))=s.1++qy r.To s.2.1 (q.filter λx=>s5 (s.2.2<=x)&&s5 (x<r.To))) (λs=>(r.To-s.2.2).toNat) (λc=>c.1.length<=1000000/\qy r.To r.j (q.filter (C! r))=c.1++[⟨c.2,r.To⟩]) (by
  rintro⟨s1,s2,d⟩ ⟨i,j,k,g⟩;dsimp only at i j k g;unfold Hu;dsimp only;by_cases hd:d<r.To
  .left;rw[J hd,VM d ha,VM d hb,g! (n:=d+1) U U];have hc:(b? (if a.contains d=a36 then M (b.contains d)else M a35) λh=>(if h=a35 then(app 16 s1 [hO.mk s2 d]).bind λe=>M (e,d)else M (s1,s2)))=if d∈q then M (s1++[⟨s2,d⟩],d)else M (s1,s2):=by
    grind[me]
   have hsp:(q.filter λx=>s5 (d<=x)&&s5 (x<r.To))=if d∈q then d::(q.filter λx=>s5 (d+1<=x)&&s5 (x<r.To))else q.filter λx=>s5 (d+1<=x)&&s5 (x<r.To):=by
    clear g hm hc
    induction q with
    |nil=>simp
    |cons x l ih=>
     have hq':=List.pairwise_cons.1 hq
     grind
   simp only[a!];rw[show(b? (if a.contains d=a36 then M (b.contains d)else M a35) λh=>(if h=a35 then(app 16 s1 [hO.mk s2 d]).bind λe=>M (e,d)else M (s1,s2)))=_ from hc];by_cases f:d∈q
   .rw[J f,a!];refine⟨_,rfl,⟨o0,o0,o0,?_⟩,o0⟩
    simp_all[qy]
   .rw[p5 f,a!]
    grind
  .right;refine⟨_,by rw[p5 hd],o0,?_⟩;dsimp only;have:(q.filter λx=>s5 (d<=x)&&s5 (x<r.To))=[]:=by
    grind[Bac]
   rw[g,this];rfl) 1000000 ([],r.j,r.j+1) o0 ⟨o0,o0,l5,by
    dsimp only;rw[N'];congr 1⟩
 grind[me]
theorem IU{a b:List Int}(ha:a.length<=1048576) (hb:b.length<=1048576):Vh [a,b]=M (a++b):=by
 unfold Vh;have e1:ca (Yh [a,b]) (0,0)=M (.inl ((a.length:Int)+b.length)):=by
  rw[Ie (s':=((a.length:Int),1)),Ie (s':=((a.length:Int)+b.length,2)),Ob (b:=(a.length:Int)+b.length)]
  all_goals grind[Yh,c!,g!]
 rw[e1,a!];dsimp only;have e2:Uh ((a.length:Int)+b.length)=M []:=by
  unfold Uh;rw[p5];have w0:aa b! (0-0)=0:=g! U U;rw[w0,Int.sub_zero,g! U U]
  grind[mka,Fw]
 rw[e2,a!];have e3:ca (Xh [a,b]) ([],0)=M (.inl (a++b)):=by
  rw[Ie (s':=(a,1)),Ie (s':=(a++b,2)),Ob (b:=a++b)]
  all_goals grind[Xh,c!,me,g!]
 simp_all
def cq7(l:cb):Prop:=∀t∈l.Tables,t.Rows.length<=1125899906842624
theorem oI{σ1 σ2 β1 β2 ρ1 ρ2:Type}{s1:σ1->Option (Ex σ1 β1 ρ1)}{s2:σ2->Option (Ex σ2 β2 ρ2)}(I:σ1->σ2->Prop) (a:σ1->Nat) (QB:β1->β2->Prop) (QR:ρ1->ρ2->Prop)
 (h:∀x y,I x y->(∃d e,s1 x=M (.go d)/\s2 y=M (.go e)/\I d e/\a d<a x)\/(∃b c,s1 x=M (.brk b)/\s2 y=M (.brk c)/\QB b c)\/∃b c,s1 x=M (.ret b)/\s2 y=M (.ret c)/\QR b c) :
 ∀(n:Nat) x y,a x<=n->I x y->(∃b c,ca s1 x=M (.inl b)/\ca s2 y=M (.inl c)/\QB b c)\/∃b c,ca s1 x=M (.inr b)/\ca s2 y=M (.inr c)/\QR b c:=by
 intro n
 induction n with
 |zero=>
  grind[Ob,ct]
 |succ n ih=>
  grind[Ie,Ob,ct]
def US(date key:Int) (r:se):Bool:=OA r.aa date&&(s5 (r.Lo<=key)&&s5 (key<r.Hi))
theorem XI(r:se) (date key:Int):Tg r date key=M (US date key r):=by
 grind[Tg,US,Jf]
theorem RL(r:se) (date key:Int):nu r date key=M (US date key r):=by
 grind[nu,US,qt]
def mC(t:oe) (date key:Int):Int×Bool:=
 match ff (λi=>if(t.Rows[i]?.any (US date key))=a35 then M ((i:Int),a35)else q6) t.Rows.length with
 |some v=>v
 |none=>(0,a36)
theorem mF{t:oe}(hl:t.Rows.length<=1048576) (date key:Int):Gw t date key=M (mC t date key):=by
 have a:ca (Xb t.Rows (λy=>Tg y date key)) 0=M (Ib () (ff (λi=>if(t.Rows[i]?.any (US date key))=a35 then M ((i:Int),a35)else q6) t.Rows.length)):=
  xb (λi=>(i:Int)) _ t.Rows.length () (λi hi _=>by
   unfold Xb;rw[J,wa hi,n! hi]
   grind[UD,XI,pa]) (λ_=>by grind[Xb])
 unfold Gw vc mC;rw[a,a!];cases h:ff (λi=>if(t.Rows[i]?.any (US date key))=a35 then M ((i:Int),a35)else q6) t.Rows.length<;>rfl
theorem BO{t:oe}(hl:t.Rows.length<=1048576) (date key:Int):vt t date key=M (mC t date key):=by
 have a:ca (iq t date key) 0=M (Ib () (ff (λi=>if(t.Rows[i]?.any (US date key))=a35 then M ((i:Int),a35)else q6) t.Rows.length)):=
  xb (λi=>(i:Int)) _ t.Rows.length () (λi hi _=>by
   unfold iq;rw[J,wa hi,n! hi]
   grind[UD,RL,pa]) (λ_=>by grind[iq])
 unfold vt mC;rw[a,a!];cases h:ff (λi=>if(t.Rows[i]?.any (US date key))=a35 then M ((i:Int),a35)else q6) t.Rows.length<;>rfl
theorem JV{t:oe}{date key:Int}(h:(mC t date key).2=a35):∃i:Nat,(mC t date key).1=(i:Int)/\i<t.Rows.length:=by
 unfold mC at h⊢;split
 .rename_i v hv;obtain⟨i,h1,h2,-⟩:=Oa.1 hv
  grind
 simp_all
def UM(len n:Nat):Option (Nat×Nat):=if 1000000000000000<len*n / 1000000 then q6 else M (len*n / 1000000,len*n % 1000000)
def qS(neg:Bool):Option (Nat×Nat)->Int×Int×Bool
 |none=>(0,0,a36)
 |some (q,r)=>(GG neg q,GG neg r,a35)
theorem Ky{n:Int}(a:len<=1000000000000000) (h2:-1000000000<=n/\n<=1000000000):bl len n=M (qS (s5 (n<0)) (UM len n.natAbs)):=by
 unfold bl;have e:(if n<0 then M (aa .u64 (-(aa .u64 n)))else M (aa .u64 n))=M (n.natAbs:Int):=by
  have:=Ri (n:=n) U U;exact this
 rw[e,a!,wuN (n:=(len:Int)) U U,R3 U U,a!];have b:len*n.natAbs<=1000000000000000*1000000000:=Vab a U;unfold UM;generalize len*n.natAbs=p at b⊢;dsimp only;rw[p5,show(1000000:Int)=((1000000:Nat):Int)from rfl,ar4 U U,a!];dsimp only;by_cases hq:1000000000000000<p / 1000000
 .rw[J,J hq];rfl
 .rw[p5,p5 hq,g! (n:=((p / 1000000:Nat):Int)) U U,g! (n:=((p % 1000000:Nat):Int)) U U];by_cases hn:n<0
  .rw[J hn,g! U U,g! U U,s6 hn];rfl
  .rw[p5 hn,u4 hn];rfl
theorem UE{n:Int}(h0:0<len) (h1:len<=1000000000000000) (h2:-1000000000<=n/\n<=1000000000):Fk len n=M (qS (s5 (n<0)) (UM len n.natAbs)):=by
 unfold Fk;have e:(if n<0 then M (aa .u64 ((aa .u64 (aa b! (-(aa b! (n+1)))))+1))else M (aa .u64 n))=M (n.natAbs:Int):=by
  by_cases hn:n<0
  .rw[J hn,g! (n:=n+1) U U,g! U U,wuN (n:=-(n+1)) U U,wuN U U];grind
  .rw[p5 hn,wuN U U];grind
 rw[e,a!];obtain⟨m,hm⟩:∃m,n.natAbs=m:=⟨_,rfl⟩;rw[hm];have hm2:m<=1000000000:=U
 have e1:aa b! (aa .u64 (s? (m:Int) 1000000))=((m / 1000000:Nat):Int):=by
  grind[wuN,g!]
 have e2:aa b! (v? (m:Int) 1000000)=((m % 1000000:Nat):Int):=by
  grind[g!]
 have e3:aa b! (s? (len:Int) 1000000)=((len / 1000000:Nat):Int):=by
  grind[g!]
 have e4:v? (len:Int) 1000000=((len % 1000000:Nat):Int):=by
  grind
 rw[e1,e2,e3,e4];have c:len*m=1000000*(len*(m / 1000000)+len / 1000000*(m % 1000000))+len % 1000000*(m % 1000000):=by
  grind[Pab]
 have hq:len*m / 1000000=len*(m / 1000000)+len / 1000000*(m % 1000000)+len % 1000000*(m % 1000000) / 1000000:=by
  omega
 have hr:len*m % 1000000=len % 1000000*(m % 1000000) % 1000000:=by
  omega
 have b1:len / 1000000*(m % 1000000)<=1000000000*1000000:=Vab U U;have b2:len % 1000000*(m % 1000000)<=1000000*1000000:=Vab U U;unfold UM;rw[hq,hr];have a:∀{α:Type} (k:Bool->Option α),(b? (α:=Bool) (if 0<((m / 1000000:Nat):Int)then(quo b! 1000000000000000 ((m / 1000000:Nat):Int)).bind λd=>M (s5 (d<(len:Int)))else M a36) k)=k (s5 (0<m / 1000000/\1000000000000000 / (m / 1000000)<len)):=by
  intro α k;by_cases h:0<m / 1000000
  .rw[J,show(1000000000000000:Int)=((1000000000000000:Nat):Int)from rfl,jT h U,a!,a!];congr 1
   grind
  grind
 rw[a];clear c hq hr a;by_cases ho:0<m / 1000000/\1000000000000000 / (m / 1000000)<len
 .rw[J l4,if_pos]
  .rfl
  .have h3:1000000000000000<len*(m / 1000000):=(pac ho.1).1 ho.2;omega
 .rw[p5 l4];have b3:len*(m / 1000000)<=1000000000000000:=by
   rcases Had (m / 1000000)with h|h
   .grind
   .have b:len<=1000000000000000 / (m / 1000000):=by
     omega
    exact P' (Δ _ b) (gad _ _)
  rw[←yad,←yad,←yad];generalize len*(m / 1000000)=A at *;generalize len / 1000000*(m % 1000000)=B at *;generalize len % 1000000*(m % 1000000)=C at *;have e5:aa b! (s? (aa b! (C:Int)) 1000000)=((C / 1000000:Nat):Int):=by
   grind[g!]
  have e6:v? (aa b! (C:Int)) 1000000=((C % 1000000:Nat):Int):=by
   grind[g!]
  rw[e5,e6,g! (n:=(A:Int)) U U,g! (n:=(B:Int)) U U,g! (n:=(A:Int)+B) U U,g! (n:=(A:Int)+B+((C / 1000000:Nat):Int)) U U];by_cases hQ:1000000000000000<A+B+C / 1000000
  .rw[J,J hQ];rfl
  .rw[p5,p5 hQ];by_cases hn:n<0
   .rw[J hn,g! U U,g! U U,s6 hn];rfl
   .rw[p5 hn,u4 hn];rfl
theorem TM{neg:Bool}{n:Nat}:-1000000000000000<=(qS neg (UM len n)).1/\(qS neg (UM len n)).1<=1000000000000000/\-1000000<=(qS neg (UM len n)).2.1/\(qS neg (UM len n)).2.1<=1000000:=by
 grind[UM,qS,GG]
def rsS(w m mode:Int):Int:=vM mode ((w*1000000+m) / 1000000) ((w*1000000+m) % 1000000) 1000000
theorem SL(hm:0<=mode/\mode<=5) (hw:-2000000000000000000<=w/\w<=2000000000000000000) (hr:-1000000000000<=m/\m<=1000000000000):ou w m mode=M (rsS w m mode):=by
 obtain⟨T,u⟩:∃T,w*1000000+m=T:=⟨_,rfl⟩;have A:∃b,ca uo (w,m)=M (.inl b)/\(b.1*1000000+b.2=T/\0<=b.2/\b.2<=1000000000000/\-3000000000000000000<=b.1/\b.1<=3000000000000000000):=by
  refine jR (step:=uo) (λs=>s.1*1000000+s.2=T/\-1000000000000<=s.2/\s.2<=1000000000000/\-3000000000000000000<=s.1/\s.1<=2000000000000000000) (λs=>(-s.2).toNat) _ ?_ ((-m).toNat) (w,m) (x? _) ⟨u,hr.1,hr.2,U,hw.2⟩;rintro⟨a,b⟩ ⟨k,l,o,p,t⟩;dsimp only at k l o p t;unfold uo;dsimp only;by_cases h:b<0
  .left;exact⟨_,by rw[J h,g! U U,g! U U],U,U⟩
  .right;exact⟨_,by rw[p5 h],U⟩
 obtain⟨⟨a,b⟩,q1,x,y,z,H,I⟩:=A;dsimp only at x y z H I;have B:∃c,ca so (a,b)=M (.inl c)/\(c.1*1000000+c.2=T/\0<=c.2/\c.2<1000000/\-4000000000000000000<=c.1/\c.1<=4000000000000000000):=by
  refine jR (step:=so) (λs=>s.1*1000000+s.2=T/\0<=s.2/\s.2<=1000000000000/\-4000000000000000000<=s.1/\s.1<=4000000000000000000) (λs=>s.2.toNat) _ ?_ (b.toNat) (a,b) (x? _) ⟨x,y,z,U,U⟩;rintro⟨a,b⟩ ⟨k,l,o,p,t⟩;dsimp only at k l o p t;unfold so;dsimp only;by_cases h:1000000<=b
  .left;exact⟨_,by rw[J h,g! U U,g! U U],U,U⟩
  simp_all[if_neg]
 obtain⟨⟨c,d⟩,C,D,v,E,F,G⟩:=B;dsimp only at D v E F G;unfold ou rsS;rw[q1,a!];dsimp only;rw[C,a!];dsimp only;rw[u];have e1:T / 1000000=c:=U
 have e2:T % 1000000=d:=U
 have j:GG (s5 (T<0)) (Tt (s5 (T<0)) mode (T.natAbs / 1000000) (T.natAbs % 1000000) 1000000)=vM mode (T / 1000000) (T % 1000000) 1000000:=nA T 1000000 mode o4 (s5 (T<0)) (.inr rfl) hm;rw[←j];by_cases hc:0<=c
 .rw[J hc];have f:¬T<0:=U
  obtain⟨e,rfl⟩:=W! hc;obtain⟨d',rfl⟩:=W! v;have:=Xp (q:=e) (r:=d') (d:=1000000) a36 mode U U U
  grind
 .rw[p5 hc];have f:T<0:=U
  rw[show s5 (T<0)=a35 from by simp_all];by_cases hd:d=0
  .rw[J hd];congr 1;have:T.natAbs % 1000000=0:=U
   rw[this];have hn:Tt a35 mode (T.natAbs / 1000000) 0 1000000=T.natAbs / 1000000:=p5 (by unfold xM;omega);rw[hn];unfold GG
   grind
  .rw[p5 hd,g! (n:=-c) U U,g! (n:=-c-1) U U,g! (n:=1000000-d) U U];obtain⟨e,g⟩:=W! (show 0<=-c-1 by omega);obtain⟨d',i⟩:=W! (show 0<=1000000-d by omega);rw[g,i];have:=Xp (q:=e) (r:=d') (d:=1000000) a35 mode U U U
   grind
theorem ah5{q r e:Int}(he:e % 2=0) (h:(0<=q+e)↔(0<=q)):vM mode (q+e) r 1000000=vM mode q r 1000000+e:=by
 have:K5 mode (q+e) r 1000000↔K5 mode q r 1000000:=by unfold K5;omega
 grind[vM]
theorem JC(hm:0<=mode/\mode<=5) (hw:-2000000000000000000<=w/\w<=2000000000000000000) (hr:-1000000000000<=m/\m<=1000000000000) :
 Ns w m mode=M (if 1000000000000000<rsS w m mode\/rsS w m mode < -1000000000000000 then(0,3)else(rsS w m mode,0)):=by
 have a:=dae m 1000000;have hm1:=Gad m (show(0:Int)<1000000 by omega);have hm2:-1000000<v? m 1000000:=by
  grind
 unfold Ns;rw[g! (n:=s? m 1000000) U U,g! (n:=w+s? m 1000000) U U];have f:w*1000000+m=(w+s? m 1000000)*1000000+v? m 1000000:=U
 unfold rsS;rw[f];have hW:-3000000000000000000<=w+s? m 1000000/\w+s? m 1000000<=3000000000000000000:=U
 generalize w+s? m 1000000=W at *;generalize v? m 1000000=j4 at *;clear a f;have b:=gZ mode ((W*1000000+j4) / 1000000) ((W*1000000+j4) % 1000000) 1000000;by_cases hb:W < -2000000000000000\/2000000000000000<W
 .grind
 .rw[J,a!,p5 l4];have d:v? W 2=if 0<=W then W % 2 else -(-W % 2):=by
   grind
  obtain⟨P,hP,hPe⟩:∃P,(if 1<W then M (aa b! ((v? W 2)+2))else if W<(-1)then M (aa b! ((v? W 2)-2))else M (v? W 2))=M P/\((1<W/\P=W % 2+2)\/(W < -1/\P = -(-W % 2)-2)\/(-1<=W/\W<=1/\P=W)):=by
   rw[d];by_cases e:1<W
   .rw[J e,J,g! U U];simp_all
   .rw[p5 e];by_cases h2:W < -1
    .rw[J h2,p5,g! U U];simp_all
    .rw[p5 h2];grind
  rw[hP,a!];have hPb:-4<=P/\P<=4:=U
  rw[g! (n:=P*1000000) U U,g! (n:=P*1000000+j4) U U,Ah];unfold OQ;rw[p5 (v!.2 hm),p5 o4,p5];obtain⟨Z,g⟩:∃Z,P*1000000+j4=Z:=⟨_,rfl⟩;rw[g];have h:GG (!(s5 (Z<0)==s5 ((1000000:Int)<0))) (Tt (!(s5 (Z<0)==s5 ((1000000:Int)<0))) mode (Z.natAbs / 1000000) (Z.natAbs % 1000000) 1000000)=vM mode (Z / 1000000) (Z % 1000000) 1000000:=nA Z 1000000 mode o4 (!(s5 (Z<0)==s5 ((1000000:Int)<0))) (.inr l5) hm;simp only[a!];rw[show(1000000:Int).natAbs=1000000 from rfl,h,p5 l5];have c:vM mode ((W*1000000+j4) / 1000000) ((W*1000000+j4) % 1000000) 1000000=vM mode (Z / 1000000) (Z % 1000000) 1000000+(W-P):=by
   have e1:(W*1000000+j4) / 1000000=Z / 1000000+(W-P):=U
   have e2:(W*1000000+j4) % 1000000=Z % 1000000:=U
   rw[e1,e2];exact ah5 U U
  have hrd2:=gZ mode (Z / 1000000) (Z % 1000000) 1000000;rw[c]at b⊢;generalize vM mode (Z / 1000000) (Z % 1000000) 1000000=R at *;rw[g! (n:=W-P) U U,g! (n:=W-P+R) U U,Int.add_comm (W-P) R]
  grind
structure ν (t:oe):Prop where
 len:t.Rows.length<=150
 n:∀r∈t.Rows,-1000000000<=r.N/\r.N<=1000000000
variable {t:oe}
theorem EP(ht:t.Value.a=4->ν t) (date c mode:Int):∃p,Zk t date c mode=M p/\Wr t date c mode=M p/\(p.2=0->-1000000000000000<=p.1/\p.1<=1000000000000000):=by
 unfold Zk Wr;rw[N3,uz,a!];by_cases hm:¬(0<=mode/\mode<=5)
 .simp_all
 have hm:=Kab.1 hm;rw[s6 hm,u4 (p:=¬(0<=mode/\mode<=5)) (λh=>h hm),p5 (show¬(a36=a35)from λh=>nomatch h),p5 (show¬(a35=a36)from λh=>nomatch h)];have e:∀{α:Type} (k:Bool->Option α),(b? (α:=Bool) (if t.af.a=3/\t.af.g=0 then M (!((t.Value.a==4)&&(t.Value.g==0)))else M a35) k)=k (!s5 ((t.af.a=3/\t.af.g=0)/\(t.Value.a=4/\t.Value.g=0))):=by
  grind
 rw[e,e];by_cases hk:¬((t.af.a=3/\t.af.g=0)/\(t.Value.a=4/\t.Value.g=0))
 .rw[u4 hk,J (show(!false)=a35 from rfl),J (show(!false)=a35 from rfl)];simp
 have hk:=Kab.1 hk;rw[s6 hk,p5 (show¬((!true)=a35)from λh=>nomatch h),p5 (show¬((!true)=a35)from λh=>nomatch h),qf U U,a!];have ht:=ht hk.2.1;by_cases hc:1000000000000000<c\/c < -1000000000000000
 .have h2:(if¬c < -1000000000000000 then M (s5 (1000000000000000<c))else M a35)=M a35:=by
   grind
  simp_all
 .rw[J,a!,p5 l4,p5 l4];have g:=oI (s1:=Cg t date c) (s2:=Yq t date c) (λx y=>x=y/\∃i:Nat,x.2.2=(i:Int)/\i<=t.Rows.length/\-(1000000000000000*(i:Int))<=x.1/\x.1<=1000000000000000*(i:Int)/\-(1000000*(i:Int))<=x.2.1/\x.2.1<=1000000*(i:Int)) (λx=>(t.Rows.length-x.2.2).toNat) (λx y=>x=y/\-150000000000000000<=x.1/\x.1<=150000000000000000/\-150000000<=x.2/\x.2<=150000000) (λx y=>x=(0,3)/\y=(0,3)) (by
   rintro⟨a,b,j⟩ y ⟨rfl,i,l,o,q,s,u,z⟩;dsimp only at l o q s u z;subst l;have hl:=ht.len;unfold Cg Yq;dsimp only;by_cases hi:i<t.Rows.length
   .have hN:=ht.n _ (y! hi);rw[J,J,wa hi];simp only[a!,Jf,qt];generalize t.Rows[i]=r at hN⊢;by_cases f:OA r.aa date=a35/\¬(min r.Hi c<=max r.Lo 0)
    .rw[J f.1,J f.2];have q1:s5 (min r.Hi c<=max r.Lo 0)=a36:=l4
     rw[q1,f.1];simp only[a!,γ,t!,s7];rw[g! U U];obtain⟨len,d⟩:=W! (show 0<=min r.Hi c-max r.Lo 0 by omega);rw[d,Ky U hN,UE U U hN];have hb:=TM (neg:=s5 (r.N<0)) (len:=len) (n:=r.N.natAbs);generalize qS (s5 (r.N<0)) (UM len r.N.natAbs)=v at hb⊢;obtain⟨B,C,D⟩:=v;simp only[a!]at hb⊢;cases D
     .simp
     .left;rw[g! (n:=a+B) U U,g! (n:=b+C) U U,pa U];refine⟨_,_,rfl,rfl,⟨rfl,i+1,rfl,U,?_⟩,?_⟩
      all_goals grind
    .have q1:(if OA r.aa date=a35 then M (s5 (min r.Hi c<=max r.Lo 0))else M a35)=M a35:=by
      simp_all
     have A:(if¬(min r.Hi c<=max r.Lo 0)then M (!OA r.aa date)else M a35)=M a35:=by
      grind
     rw[q1,A];simp only[a!,w3];left;rw[pa U];refine⟨_,_,rfl,rfl,⟨rfl,i+1,rfl,U,?_⟩,?_⟩
     all_goals grind
   grind) t.Rows.length (0,0,0) (0,0,0) l5 ⟨rfl,0,rfl,U,l5⟩
  rcases g with⟨x,y,g1,g2,rfl,g3⟩|⟨x,y,g1,g2,rfl,rfl⟩
  .rw[g1,g2];obtain⟨w,m⟩:=x;dsimp only at g3;simp only[a!];rw[JC hm U U,SL hm U U];simp only[a!];rw[qf U U,a!]
   grind
  simp_all
theorem MX(ht:t.Value.a=4->ν t) (date c mode:Int):∃p,Zk t date c mode=M p/\(p.2=0->-1000000000000000<=p.1/\p.1<=1000000000000000):=by
 unfold Zk;rw[N3];by_cases hm:¬(0<=mode/\mode<=5)
 .simp_all
 have hm:=Kab.1 hm;rw[u4 (p:=¬(0<=mode/\mode<=5)) (λh=>h hm),p5 (show¬(a36=a35)from λh=>nomatch h)];have f:∀{α:Type} (k:Bool->Option α),(b? (α:=Bool) (if t.af.a=3/\t.af.g=0 then M (!((t.Value.a==4)&&(t.Value.g==0)))else M a35) k)=k (!s5 ((t.af.a=3/\t.af.g=0)/\(t.Value.a=4/\t.Value.g=0))):=by
  grind
 rw[f];by_cases hk:¬((t.af.a=3/\t.af.g=0)/\(t.Value.a=4/\t.Value.g=0))
 .rw[u4 hk,J (show(!false)=a35 from rfl)];simp
 have hk:=Kab.1 hk;rw[s6 hk,p5 (show¬((!true)=a35)from λh=>nomatch h)];have ht:=ht hk.2.1;by_cases hc:1000000000000000<c\/c < -1000000000000000
 .have h2:(if¬c < -1000000000000000 then M (s5 (1000000000000000<c))else M a35)=M a35:=by
   grind
  simp_all
 .rw[J,a!,p5 l4];have e:=oI (s1:=Cg t date c) (s2:=Cg t date c) (λx y=>x=y/\∃i:Nat,x.2.2=(i:Int)/\i<=t.Rows.length/\-(1000000000000000*(i:Int))<=x.1/\x.1<=1000000000000000*(i:Int)/\-(1000000*(i:Int))<=x.2.1/\x.2.1<=1000000*(i:Int)) (λx=>(t.Rows.length-x.2.2).toNat) (λx y=>x=y/\-150000000000000000<=x.1/\x.1<=150000000000000000/\-150000000<=x.2/\x.2<=150000000) (λx y=>x=(0,3)/\y=(0,3)) (by
   rintro⟨a,b,j⟩ y ⟨rfl,i,g,o,q,s,u,z⟩;dsimp only at g o q s u z;subst g;have hl:=ht.len;unfold Cg;dsimp only;by_cases hi:i<t.Rows.length
   .have hN:=ht.n _ (y! hi);rw[J,wa hi];simp only[a!,Jf];generalize t.Rows[i]=r at hN⊢;by_cases l:OA r.aa date=a35/\¬(min r.Hi c<=max r.Lo 0)
    .rw[J l.1];have q1:s5 (min r.Hi c<=max r.Lo 0)=a36:=l4
     rw[q1];simp only[a!,t!,s7];rw[g! U U];obtain⟨len,d⟩:=W! (show 0<=min r.Hi c-max r.Lo 0 by omega);rw[d,Ky U hN];have hb:=TM (neg:=s5 (r.N<0)) (len:=len) (n:=r.N.natAbs);generalize qS (s5 (r.N<0)) (UM len r.N.natAbs)=v at hb⊢;obtain⟨A,B,C⟩:=v;simp only[a!]at hb⊢;cases C
     .simp
     .left;rw[g! (n:=a+A) U U,g! (n:=b+B) U U,pa U];refine⟨_,_,rfl,rfl,⟨rfl,i+1,rfl,U,?_⟩,?_⟩
      all_goals grind
    .have q1:(if OA r.aa date=a35 then M (s5 (min r.Hi c<=max r.Lo 0))else M a35)=M a35:=by
      simp_all
     have q2:(if¬(min r.Hi c<=max r.Lo 0)then M (!OA r.aa date)else M a35)=M a35:=by
      grind
     rw[q1];simp only[a!,w3];left;rw[pa U];refine⟨_,_,rfl,rfl,⟨rfl,i+1,rfl,U,?_⟩,?_⟩
     all_goals grind
   grind) t.Rows.length (0,0,0) (0,0,0) l5 ⟨rfl,0,rfl,U,l5⟩
  rcases e with⟨x,y,g1,g2,rfl,g3⟩|⟨x,y,g1,g2,rfl,rfl⟩
  .rw[g1];obtain⟨w,m⟩:=x;dsimp only at g3;simp only[a!];rw[JC hm U U];simp only[a!];by_cases h:1000000000000000<rsS w m mode\/rsS w m mode < -1000000000000000
   .simp_all
   grind
  simp_all
def Ga(v:bz):Prop:=
 (v.a=1/\v.g=0/\0<=v.N/\v.N<=1)\/(v.a=2/\v.g=0/\-1000000000000<=v.N/\v.N<=1000000000000)\/(v.a=3/\v.g=0/\-1000000000000000<=v.N/\v.N<=1000000000000000)\/
 (v.a=4/\v.g=0/\-1000000000<=v.N/\v.N<=1000000000)\/(v.a=5/\v.g=0/\0<=v.N/\v.N<=109572)\/(v.a=6/\0<=v.g/\v.g<8/\0<=v.N/\v.N<16)
instance (v:bz):Decidable (Ga v):=by unfold Ga;infer_instance
def Nz(v:bz):Bool:=s5 (Ga v)
theorem fR{a b:Prop} [Decidable a] [Decidable b]:(b? (α:=Bool) (if a then M (decide b)else M a36) λj=>M j)=M (s5 (a/\b)):=by
 grind
theorem ct3{a:Prop} [Decidable a] {b:Bool}:(if¬a then M b else M a36)=M (!decide a&&b):=by
 grind
theorem pb(v:bz):Tb v=M (Nz v):=by
 obtain⟨K,E,N⟩:=v;unfold Tb Nz Ga;simp only[fR,ct3,a!]
 grind[decide]
theorem Wd(v:bz):Hb v=M (Nz v):=by
 obtain⟨K,E,N⟩:=v;unfold Hb Bt Nz Ga
 grind[decide]
theorem Ga.range(h:Ga v):-1000000000000000<=v.N/\v.N<=1000000000000000/\1<=v.a/\v.a<=6:=by unfold Ga at h;omega
theorem cq2{l:List bz}(hl:l.length<=1048576):qg l=M (l.all Nz)/\ca (vo l) 0=M (if l.all Nz=a35 then .inl ()else .inr (⟨0,0,0⟩,8)):=by
 have e1:ca (Jc l) 0=M (Ib () (ff (λi=>if(l[i]?.any λv=>!Nz v)=a35 then M a36 else q6) l.length)):=
  xb (λi=>(i:Int)) _ l.length () (λi hi _=>by
   unfold Jc;rw[J,wa hi,n! hi]
   grind[UD,pb,pa]) (λ_=>by grind[Jc])
 have e2:ca (vo l) 0=M (Ib () (ff (λi=>if(l[i]?.any λv=>!Nz v)=a35 then M ((⟨0,0,0⟩,8):bz×Int)else q6) l.length)):=
  xb (λi=>(i:Int)) _ l.length () (λi hi _=>by
   unfold vo;rw[J,wa hi,n! hi]
   grind[UD,Wd,pa]) (λ_=>by grind[vo])
 unfold qg;rw[e1,e2];by_cases h:l.all Nz=a35
 .have hn:∀i,i<l.length->(l[i]?.any λv=>!Nz v)=a36:=by
   simp_all
  rw[Xa.2 (λi hi=>l4),Xa.2 (λi hi=>l4),h];exact⟨rfl,rfl⟩
 .have hb:l.all Nz=a36:=l4
  obtain⟨x,hx,hx2⟩:∃x∈l,Nz x=a36:=by
   simp_all
  obtain⟨k,hk,rfl⟩:=H' hx;have ne:∀{ρ:Type} (v:ρ),ff (λi=>if(l[i]?.any λv=>!Nz v)=a35 then M v else q6) l.length=M v:=by
   intro ρ v
   cases hf:ff (λi=>if(l[i]?.any λv=>!Nz v)=a35 then M v else q6) l.length with
   |none=>
    grind[Xa]
   |some w=>
    obtain⟨i,_,h2,_⟩:=Oa.1 hf
    simp_all
  rw[ne,ne,hb];exact⟨rfl,rfl⟩
def wfS(n:fr):Bool:=
 s5 (n.N=0\/Vc n.Op=a35)&&s5 ((14<=n.Op/\n.Op<=16->0<=n.N/\n.N<=5)/\(n.Op=34->0<=n.N/\n.N % 8<=5)/\(n.Op=6->0<=n.N))
theorem bv3:(b? (α:=Bool) (if n.Op=14 then M a35 else if n.Op=15 then M a35 else M (n.Op==16)) λh=>
 if h=a35 then b? (α:=Bool) (if 0<=n.N then M (s5 (n.N<=5))else M a36) λe=>M e
 else if n.Op=34 then b? (α:=Bool) (if 0<=n.N then M (s5 ((v? n.N 8)<=5))else M a36) λf=>M f
 else if n.Op=6 then M (s5 (0<=n.N))else M a35)=M (s5 ((14<=n.Op/\n.Op<=16->0<=n.N/\n.N<=5)/\(n.Op=34->0<=n.N/\n.N % 8<=5)/\(n.Op=6->0<=n.N))):=by
 obtain⟨op,N⟩:=n;dsimp only;simp only[fR];by_cases b:op=14
 .simp_all
 by_cases c:op=15
 .simp_all
 by_cases d:op=16
 .simp_all
 by_cases a:op=34
 .subst a;simp
  grind
 by_cases g:op=6
 .simp_all
 simp[b,c,d,a,g];omega
theorem y6(h:1<=op/\op<=39):0<=Fb op:=by
 grind[Fb]
theorem BJ(n:fr):Sp n=M (s5 (1<=n.Op/\n.Op<=39)&&wfS n):=by
 unfold Sp;rw[lp,a!,bv3];by_cases h:1<=n.Op/\n.Op<=39
 .have:=y6 h;rw[J,Ka h,s6 h,Μ];unfold wfS;by_cases hN:n.N=0
  .grind
  .cases hu:Vc n.Op<;>simp[hN]
 grind[vF]
theorem DO(n:fr) (k:Nat):gw n k=M (s5 (1<=n.Op/\n.Op<=39)&&(s5 (Fb n.Op=k)&&wfS n)):=by
 unfold gw;rw[Qx,a!,bv3];by_cases h:1<=n.Op/\n.Op<=39
 .have hm:ru n.Op=M (Vc n.Op):=by
   rcases rC h with h|h|h|h|h|h|h|h|h|h|h|h|h|h|h|h|h|h|h|h|h|h|h|h|h|h|h|h|h|h|h|h|h|h|h|h|h|h|h<;>rw[h]<;>simp[ru,Vc]
  rw[hm,s6 h,Μ];unfold wfS;by_cases hk:Fb n.Op=k
  .rw[J hk,s6 hk,Μ];by_cases hN:n.N=0
   .grind
   .cases hu:Vc n.Op<;>simp[hN]
  simp_all
 simp_all[vF]
def Kw(n:fr) (env:ia):Bool:=
 if n.Op=7 then s5 (0<=n.N/\n.N<(env.w.length:Int))else
 if n.Op=8 then s5 (0<=n.N/\n.N<(env.d.length:Int))&&!(((env.d[n.N.toNat]?).map (·.a)).getD 0==0)else
 if n.Op=33 then s5 (0<=n.N/\n.N<(env.Tables.length:Int))else
 if n.Op=34 then s5 (aa b! (s? n.N 8)<(env.Tables.length:Int))else
 if 36<=n.Op/\n.Op<=39 then s5 (0<=n.N/\n.N<(env.au.length:Int))else a35
theorem I8:(b? (α:=Bool) (if op=36 then M a35 else if op=37 then M a35 else if op=38 then M a35 else M (op==39)) k)=k (s5 (36<=op/\op<=39)):=by
 by_cases a:op=36
 .simp_all
 by_cases h2:op=37
 .simp_all
 by_cases b:op=38
 .simp_all
 by_cases h4:op=39
 .simp_all
 rw[p5 a,p5 h2,p5 b,a!]
 grind[decide_eq_false_iff_not]
theorem yB(n:fr) (env:ia):fy n env=M (Kw n env):=by
 unfold fy Kw;simp only[I8,fR];split
 .rfl
 split
 .by_cases a:0<=n.N
  .by_cases b:n.N<(env.d.length:Int)
   .rw[J a,J b,Nh a b,n! U];grind
   grind
  grind
 grind
theorem mQ(n:fr) (env:ia):yy n env=M (Kw n env):=by
 unfold yy Kw;simp only[I8,fR];split
 .rfl
 split
 .by_cases a:0<=n.N
  .by_cases b:n.N<(env.d.length:Int)
   .rw[J a,J b,Nh a b,n! U];grind
   grind
  grind
 grind
structure w? (env:ia):Prop where
 tabs:∀t∈env.Tables,t.Rows.length<=150/\(t.Value.a=4->ν t)
 mem:env.s.length<=1048576
def Qb(n:fr) (args:List bz) (env:ia):Option (bz×Int):=
 (ea n args env).bind λa=>if a=a36 then M (⟨0,0,0⟩,8)else
 (qa n args env).bind λx=>if¬x.2=0 then M (⟨0,0,0⟩,x.2)else
 if Nz x.1=a36 then M (⟨0,0,0⟩,3)else M (x.1,0)
def ob(n:fr):List bz->ia->Option (bz×Int)
 |[],env=>if 36<=n.Op/\n.Op<=39 then Hq n env else ig n env
 |[a],env=>Ae n a env
 |[a,b],_=>Bb n a b
 |[a,b,c],_=>if a.a=1/\b.a=c.a/\b.g=c.g then(if a.N=1 then M (b,0)else M (c,0))else M (⟨0,0,0⟩,8)
 |_,_=>q6
def tn(e r:Option (bz×Int)):Prop:=∃p,e=M p/\r=M p/\(p.2=0->Ga p.1)
theorem Rz{c:Int}(h:c≠0):tn (M (⟨0,0,0⟩,c)) (M (⟨0,0,0⟩,c)):=⟨_,rfl,rfl,λh2=>absurd h2 h⟩
theorem oj{x:Option (bz×Int)}:(x.bind λy=>M (y.1,y.2))=x:=by cases x<;>rfl
theorem UX{env:ia}(ha:args.length<=3) (h:1<=n.Op/\n.Op<=39->Fb n.Op=args.length->wfS n=a35->Kw n env=a35->(∀a∈args,Ga a)->tn (Qb n args env) (ob n args env)):tn (og n args env) (Zr n args env):=by
 unfold og Zr;obtain⟨a1,a2⟩:=cq2 (l:=args) U;rw[BJ,lp,yB,DO,mQ,a1,a2];simp only[a!];by_cases m:1<=n.Op/\n.Op<=39
 case neg=>grind[Rz]
 rw[s6 m];simp only[Μ];by_cases h2:wfS n=a35
 case neg=>rw[eac.2 h2];simp_all[Rz]
 rw[h2];simp only[Bool.and_true,w3];by_cases o:Fb n.Op=args.length
 case neg=>
  grind[Rz]
 have:((args.length:Int) !=Fb n.Op)=a36:=o0
 rw[this,s6 o];simp only[a!,t!,s7,O!];by_cases f:Kw n env=a35
 case neg=>rw[eac.2 f];grind[Rz]
 rw[f];simp only[O!,s7];by_cases g:args.all Nz=a35
 case neg=>rw[eac.2 g];grind[Rz]
 rw[g];simp only[w3];have p:∀a∈args,Ga a:=λa ha=>D1 (R'.1 g a ha);have hc:=h m o h2 f p;have e1:(b? (α:=Bool) ((ea n args env).bind λj=>M (!j)) λi=>if i=a35 then M ((⟨0,0,0⟩:bz),(8:Int))else(qa n args env).bind λe=>if¬e.2=0 then M (⟨0,0,0⟩,e.2)else(Tb e.1).bind λk=>if k=a36 then M (⟨0,0,0⟩,3)else M (e.1,0))=Qb n args env:=by
  unfold Qb
  cases ea n args env with
  |none=>rfl
  |some b=>
   grind[pb]
 rw[e1];rcases args with _|⟨a,_|⟨b,_|⟨c,_|⟨d,l⟩⟩⟩⟩
 .simp only[L!,vad,w3]
  grind[ob,oj]
 all_goals grind[ob,Md,oj,fI,SS]
def Xq(v:bz):bz×Int:=if Nz v=a35 then(v,0)else(⟨0,0,0⟩,3)
theorem Cb(k n:Int):Pc k n=M (Xq ⟨k,0,n⟩):=by
 grind[Pc,Xq,Wd]
theorem Cp(k n e:Int):Hk k n e=M (if e=0 then Xq ⟨k,0,n⟩else(⟨0,0,0⟩,e)):=by
 grind[Hk,Cb]
theorem K3(v:bz):(Xq v).2=0->Ga (Xq v).1:=by
 grind[Xq,Nz]
theorem H6(v:bz):tn (M (Xq v)) (M (Xq v)):=⟨_,rfl,rfl,K3 v⟩
theorem LU{env:ia}(h:ea n args env=M a35) {e:Int}(hc:qa n args env=M (v,e)):Qb n args env=M (if e=0 then Xq v else(⟨0,0,0⟩,e)):=by
 grind[Qb,Xq]
theorem KU{env:ia}(h:ea n args env=M a36):Qb n args env=M (⟨0,0,0⟩,8):=by
 grind[Qb]
theorem qe{env:ia}(h:ea n args env=M a35) {e:Int}(hc:qa n args env=M (v,e)) (hr:ob n args env=M (if e=0 then Xq v else(⟨0,0,0⟩,e))):tn (Qb n args env) (ob n args env):=by
 rw[LU h hc,hr];by_cases h0:e=0
 all_goals simp_all[H6,Rz]
theorem An{env:ia}(h:ea n args env=M a36) (hr:ob n args env=M (⟨0,0,0⟩,8)):tn (Qb n args env) (ob n args env):=by
 grind[KU,Rz]
theorem dD(h:Ga v):Xq v=(v,0):=J (s6 h)
theorem nE{env:ia}(h:1<=op/\op<=5):tn (Qb ⟨op,N⟩ [] env) (ob ⟨op,N⟩ [] env):=by
 refine qe (v:=⟨op,0,N⟩) (e:=0) ?_ ?_ ?_
 .have:op=1\/op=2\/op=3\/op=4\/op=5:=U
  rcases this with rfl|rfl|rfl|rfl|rfl<;>simp[ea]
 .have:op=1\/op=2\/op=3\/op=4\/op=5:=U
  rcases this with rfl|rfl|rfl|rfl|rfl<;>simp[qa]
 .unfold ob;dsimp only;rw[p5,J rfl];unfold ig;dsimp only;rw[p5,p5,p5,p5,p5,Cb];rfl
theorem bp5{env:ia}:tn (Qb ⟨6,N⟩ [] env) (ob ⟨6,N⟩ [] env):=by
 refine qe (v:=⟨6,aa b! (s? N 16),v? N 16⟩) (e:=0) (by simp[ea]) (by simp[qa]) ?_
 grind[ob,ig,Xq,Wd]
theorem bp4{env:ia}(hf:Kw ⟨7,N⟩ env=a35):tn (Qb ⟨7,N⟩ [] env) (ob ⟨7,N⟩ [] env):=by
 simp only[Kw,w3,w2]at hf
 grind[ea,qa,ob,ig,Xq,Nh,qe,pb,Wd,An]
theorem bp3{env:ia}(hf:Kw ⟨8,N⟩ env=a35):tn (Qb ⟨8,N⟩ [] env) (ob ⟨8,N⟩ [] env):=by
 simp only[Kw,t?,s7,w3,E',w2]at hf
 grind[ea,qa,ob,ig,Xq,Nh,qe,pb,Wd,An]
theorem bp2{env:ia}:tn (Qb ⟨9,N⟩ [] env) (ob ⟨9,N⟩ [] env):=
 qe (v:=⟨5,0,env.z⟩) (e:=0) (by simp[ea]) (by simp[qa]) (by simp[ob,ig,Cb])
theorem aO7{env:ia}:tn (Qb ⟨35,N⟩ [] env) (ob ⟨35,N⟩ [] env):=
 qe (v:=⟨2,0,(env.s.length:Int)⟩) (e:=0) (by simp[ea]) (by simp[qa]) (by simp[ob,ig,Cb])
theorem wc(k:Int):Oj k=M (s5 (2<=k/\k<=4)):=by
 unfold Oj;by_cases h2:k=2
 .simp_all
 by_cases a:k=3
 .simp_all
 rw[J h2,J a,a!]
 grind[decide_eq_false]
theorem Gk(k:Int):Bp k=M (s5 (2<=k/\k<=4)):=by
 unfold Bp;by_cases h2:k=2
 .simp_all
 by_cases a:k=3
 .simp_all
 rw[J h2,J a,a!]
 grind[decide_eq_false]
theorem sf(b:Bool):bj b=M ⟨1,0,if b=a35 then 1 else 0⟩:=by cases b<;>rfl
theorem pn(b:Bool):qi b=M (⟨1,0,if b=a35 then 1 else 0⟩,0):=by cases b<;>rfl
theorem qx(b:Bool):Xq ⟨1,0,if b=a35 then 1 else 0⟩=(⟨1,0,if b=a35 then 1 else 0⟩,0):=by cases b<;>exact dD o4
theorem aP4{env:ia}(ha:Ga a):tn (Qb ⟨10,N⟩ [a] env) (ob ⟨10,N⟩ [a] env):=by
 have hr:=ha.range;by_cases hn:2<=a.a/\a.a<=4
 .refine qe (v:=⟨a.a,0,-a.N⟩) (e:=0) (by grind[ea,Na,Md,wc]) (by grind[qa,gk,Md,g!]) ?_;simp[ob,Ae,Gk,hn,g! (n:=-a.N) U U,Cb]
 .have hd:s5 (2<=a.a/\a.a<=4)=a36:=u4 hn;refine An (by simp only[ea,t?,s7,a!,E?,t!,Md,Na,wc,hd,H!,L!,w3,Y?,zad]) (by simp_all[ob,Ae,Gk])
theorem aP3{env:ia}(ha:Ga a):tn (Qb ⟨25,N⟩ [a] env) (ob ⟨25,N⟩ [a] env):=by
 by_cases hn:a.a=1
 .refine qe (v:=⟨1,0,if(a.N==0)=a35 then 1 else 0⟩) (e:=0) aaK (by simp only[qa,t?,s7,a!,E?,t!,Md,gk,sf,H!,L!,w3,Y?,zad]) ?_;rw[qx]
  simp_all[ob,Ae,pn]
 grind[ea,Na,ob,Ae,An,Md]
theorem JQ{env:ia}(b:op=31\/op=32) (ha:Ga a):tn (Qb ⟨op,N⟩ [a] env) (ob ⟨op,N⟩ [a] env):=by
 by_cases hn:a.a=5
 .have f:0<=a.N/\a.N<=109572:=by unfold Ga at ha;omega
  obtain⟨y,m,d,c,hz⟩:∃y m d,Zm a.N=M (y,m,d)/\Sr a.N=M (y,m,d):=by
   obtain⟨n,m,k,c⟩:=rF f.1 f.2;exact⟨_,_,_,ep c,AG c⟩
  rcases b with rfl|rfl
  .refine qe (v:=⟨2,0,y⟩) (e:=0) aaK (by grind[qa,gk,Md]) ?_
   simp_all[ob,Ae,Cb]
  .refine qe (v:=⟨2,0,m⟩) (e:=0) aaK (by grind[qa,gk,Md]) ?_
   simp_all[ob,Ae,Cb]
 .rcases b with rfl|rfl
  all_goals grind[ea,Na,ob,Ae,An,Md]
theorem Pv(v:bz) (t:ej):Ys v t=M (Nz v&&(s5 (v.a=t.a)&&s5 (v.g=t.g))):=by
 grind[Ys,pb]
theorem pW(v:bz) (t:ej):zC v t=M (Nz v&&(s5 (v.a=t.a)&&s5 (v.g=t.g))):=by
 grind[zC,Wd]
theorem aO9{env:ia}(he:w? env) (hf:Kw ⟨33,N⟩ env=a35) (ha:Ga a):tn (Qb ⟨33,N⟩ [a] env) (ob ⟨33,N⟩ [a] env):=by
 simp only[Kw,t?,s7,w3,w2]at hf;have hm:env.Tables[N.toNat]' U∈env.Tables:=y! _;have hi:c! env.Tables N=M (env.Tables[N.toNat]' U):=Nh hf.1 hf.2;generalize env.Tables[N.toNat]' U=t at hi hm;have ht:=he.tabs t hm;have e:Nz a=a35:=s6 ha;have c:ea ⟨33,N⟩ [a] env=M (s5 (a.a=t.af.a/\a.g=t.af.g/\1<=t.Value.a/\t.Value.a<=6)):=by
  simp only[ea,t?,s7,w3,hi,Md,a!,Pv,e,Μ]
  grind
 have hre:ob ⟨33,N⟩ [a] env=Ct t env.z a:=by
  grind[ob,Ae,oj]
 have b:Ct t env.z a=if a.a=t.af.a/\a.g=t.af.g/\1<=t.Value.a/\t.Value.a<=6 then(vt t env.z a.N).bind λg=>if g.2=a36 then M (⟨0,0,0⟩,6)else(c! t.Rows g.1).bind λh=>M (Xq ⟨t.Value.a,t.Value.g,h.N⟩)else M (⟨0,0,0⟩,8):=by
  grind[Ct,Xq,Wd]
 by_cases hc:a.a=t.af.a/\a.g=t.af.g/\1<=t.Value.a/\t.Value.a<=6
 .rw[s6 hc]at c;rw[J hc,BO U,a!]at b;have d:qa ⟨33,N⟩ [a] env=if(mC t env.z a.N).2=a36 then M (⟨0,0,0⟩,6)else(c! t.Rows (mC t env.z a.N).1).bind λf=>M (⟨t.Value.a,t.Value.g,f.N⟩,0):=by
   grind[qa,Md,mF]
  by_cases hl:(mC t env.z a.N).2=a35
  .obtain⟨i,h1,h2⟩:=JV hl
   grind[wa,qe]
  .rw[eac.2 hl]at b d
   grind[qe]
 .rw[u4 hc]at c;rw[p5 hc]at b
  grind[An]
theorem aO8{env:ia}(he:w? env) (hN:Zb ⟨34,N⟩) (hw:wfS ⟨34,N⟩=a35) (hf:Kw ⟨34,N⟩ env=a35) (ha:Ga a):tn (Qb ⟨34,N⟩ [a] env) (ob ⟨34,N⟩ [a] env):=by
 simp only[Kw,t?,s7,w3,w2]at hf;have g:0<=N/\N % 8<=5:=by
  simp_all[wfS]
 obtain⟨d,e⟩:=hN;dsimp only at d e;have hq:aa b! (s? N 8)=N / 8:=by grind[g!]
 have hr:v? N 8=N % 8:=dX g.1;rw[hq]at hf;have hm:env.Tables[(N / 8).toNat]' U∈env.Tables:=y! _;have hi:c! env.Tables (N / 8)=M (env.Tables[(N / 8).toNat]' U):=Nh U hf;generalize env.Tables[(N / 8).toNat]' U=t at hi hm;have ht:=he.tabs t hm;obtain⟨p,b1,f,b3⟩:=EP ht.2 env.z a.N (N % 8);have b:ea ⟨34,N⟩ [a] env=M (s5 (a.a=3/\t.af.a=3/\t.af.g=0/\t.Value.a=4/\t.Value.g=0)):=by
  simp only[ea,t?,s7,w3,hq,hi,Md,a!]
  grind
 have c:ob ⟨34,N⟩ [a] env=if a.a=3/\t.af.a=3/\t.af.g=0/\t.Value.a=4/\t.Value.g=0 then M (if p.2=0 then Xq ⟨3,0,p.1⟩else(⟨0,0,0⟩,p.2))else M (⟨0,0,0⟩,8):=by
  simp only[ob,Ae,t?,s7,a!,E?,t!,hq,hr,hi,f,Cp]
  grind
 by_cases hc:a.a=3/\t.af.a=3/\t.af.g=0/\t.Value.a=4/\t.Value.g=0
 .rw[s6 hc]at b;rw[J hc]at c
  grind[qa,qe,Md]
 .rw[u4 hc]at b;rw[p5 hc]at c
  grind[An]
theorem aP2{c:bz}{env:ia}(ha:Ga a) (hb:Ga b) (hc:Ga c):tn (Qb ⟨26,N⟩ [a,b,c] env) (ob ⟨26,N⟩ [a,b,c] env):=by
 by_cases h:a.a=1/\b.a=c.a/\b.g=c.g
 .have d:ea ⟨26,N⟩ [a,b,c] env=M a35:=by
   grind[ea,je,Md,fI,SS]
  grind[qa,ob,qe,Md,fI,SS,dD]
 .have d:ea ⟨26,N⟩ [a,b,c] env=M (s5 (a.a=1/\b.a=c.a/\b.g=c.g)):=by
   grind[ea,je,Md,fI,SS]
  rw[u4 h]at d;exact An d (by simp_all[ob])
def DA(e:Option (bz×Int)):Prop:=∃p,e=M p/\(p.2=0->Ga p.1)
theorem rn{env:ia}(h:ea n args env=M a35) {e:Int}(hc:qa n args env=M (v,e)):DA (Qb n args env):=by
 rw[LU h hc];by_cases a:e=0
 .rw[J a];exact⟨_,rfl,K3 v⟩
 .rw[p5 a];exact⟨_,rfl,λh2=>absurd h2 a⟩
theorem Yy{env:ia}(h:ea n args env=M a36):DA (Qb n args env):=by
 rw[KU h];exact⟨_,rfl,λh2=>absurd h2 o4⟩
theorem aA5{env:ia}:DA (Qb ⟨6,N⟩ [] env):=by
 exact rn (v:=⟨6,aa b! (s? N 16),v? N 16⟩) (e:=0) (by simp[ea]) (by simp[qa])
theorem aA4{env:ia}(hf:Kw ⟨7,N⟩ env=a35):DA (Qb ⟨7,N⟩ [] env):=by
 simp only[Kw,w3,w2]at hf;have hi:c! env.w N=M (env.w[N.toNat]' U):=Nh hf.1 hf.2;generalize env.w[N.toNat]' U=v at hi;by_cases hv:Nz v=a35
 .exact rn (v:=v) (e:=0) (by grind[ea,pb]) (by grind[qa])
 grind[ea,Yy,pb]
theorem aA3{env:ia}(hf:Kw ⟨8,N⟩ env=a35):DA (Qb ⟨8,N⟩ [] env):=by
 simp only[Kw,t?,s7,w3,E',w2]at hf;have hi:c! env.d N=M (env.d[N.toNat]' U):=Nh hf.1.1 hf.1.2;generalize env.d[N.toNat]' U=v at hi;by_cases hv:Nz v=a35
 .exact rn (v:=v) (e:=0) (by grind[ea,pb]) (by grind[qa])
 grind[ea,Yy,pb]
theorem aA2{env:ia}:DA (Qb ⟨9,N⟩ [] env):=
 rn (v:=⟨5,0,env.z⟩) (e:=0) (by simp[ea]) (by simp[qa])
theorem ad0{env:ia}:DA (Qb ⟨35,N⟩ [] env):=
 rn (v:=⟨2,0,(env.s.length:Int)⟩) (e:=0) (by simp[ea]) (by simp[qa])
theorem ad7{env:ia}(ha:Ga a):DA (Qb ⟨10,N⟩ [a] env):=by
 have hr:=ha.range;by_cases hn:2<=a.a/\a.a<=4
 .exact rn (v:=⟨a.a,0,-a.N⟩) (e:=0) (by grind[ea,Na,Md,wc]) (by grind[qa,gk,Md,g!])
 .have hd:s5 (2<=a.a/\a.a<=4)=a36:=u4 hn;exact Yy (by simp only[ea,t?,s7,a!,E?,t!,Md,Na,wc,hd,H!,L!,w3,Y?,zad])
theorem ad6{env:ia}(ha:Ga a):DA (Qb ⟨25,N⟩ [a] env):=by
 by_cases hn:a.a=1
 .exact rn (v:=⟨1,0,if(a.N==0)=a35 then 1 else 0⟩) (e:=0) aaK (by simp only[qa,t?,s7,a!,E?,t!,Md,gk,sf,H!,L!,w3,Y?,zad])
 grind[ea,Na,Yy,Md]
theorem oP{env:ia}(b:op=31\/op=32) (ha:Ga a):DA (Qb ⟨op,N⟩ [a] env):=by
 by_cases hn:a.a=5
 .have c:0<=a.N/\a.N<=109572:=by unfold Ga at ha;omega
  obtain⟨y,m,d,f⟩:∃y m d,Zm a.N=M (y,m,d):=by
   obtain⟨n,m,k,f⟩:=rF c.1 c.2;exact⟨_,_,_,ep f⟩
  rcases b with rfl|rfl
  .exact rn (v:=⟨2,0,y⟩) (e:=0) aaK (by grind[qa,gk,Md])
  .exact rn (v:=⟨2,0,m⟩) (e:=0) aaK (by grind[qa,gk,Md])
 .rcases b with rfl|rfl
  all_goals grind[ea,Na,Yy,Md]
theorem ad2{env:ia}(he:w? env) (hf:Kw ⟨33,N⟩ env=a35) (ha:Ga a):DA (Qb ⟨33,N⟩ [a] env):=by
 simp only[Kw,t?,s7,w3,w2]at hf;have hm:env.Tables[N.toNat]' U∈env.Tables:=y! _;have hi:c! env.Tables N=M (env.Tables[N.toNat]' U):=Nh hf.1 hf.2;generalize env.Tables[N.toNat]' U=t at hi hm;have ht:=he.tabs t hm;have d:Nz a=a35:=s6 ha;have b:ea ⟨33,N⟩ [a] env=M (s5 (a.a=t.af.a/\a.g=t.af.g/\1<=t.Value.a/\t.Value.a<=6)):=by
  simp only[ea,t?,s7,w3,hi,Md,a!,Pv,d,Μ]
  grind
 by_cases hc:a.a=t.af.a/\a.g=t.af.g/\1<=t.Value.a/\t.Value.a<=6
 .rw[s6 hc]at b;have c:qa ⟨33,N⟩ [a] env=if(mC t env.z a.N).2=a36 then M (⟨0,0,0⟩,6)else(c! t.Rows (mC t env.z a.N).1).bind λe=>M (⟨t.Value.a,t.Value.g,e.N⟩,0):=by
   grind[qa,Md,mF]
  by_cases hl:(mC t env.z a.N).2=a35
  .grind[JV,wa,rn]
  .rw[eac.2 hl]at c
   grind[rn]
 grind[Yy]
theorem ad1{env:ia}(he:w? env) (hN:Zb ⟨34,N⟩) (hw:wfS ⟨34,N⟩=a35) (hf:Kw ⟨34,N⟩ env=a35) (ha:Ga a):DA (Qb ⟨34,N⟩ [a] env):=by
 simp only[Kw,t?,s7,w3,w2]at hf;have f:0<=N/\N % 8<=5:=by
  simp_all[wfS]
 obtain⟨c,d⟩:=hN;dsimp only at c d;have hq:aa b! (s? N 8)=N / 8:=by grind[g!]
 have hr:v? N 8=N % 8:=dX f.1;rw[hq]at hf;have hm:env.Tables[(N / 8).toNat]' U∈env.Tables:=y! _;have hi:c! env.Tables (N / 8)=M (env.Tables[(N / 8).toNat]' U):=Nh U hf;generalize env.Tables[(N / 8).toNat]' U=t at hi hm;have ht:=he.tabs t hm;obtain⟨p,b1,b3⟩:=MX ht.2 env.z a.N (N % 8);have b:ea ⟨34,N⟩ [a] env=M (s5 (a.a=3/\t.af.a=3/\t.af.g=0/\t.Value.a=4/\t.Value.g=0)):=by
  simp only[ea,t?,s7,w3,hq,hi,Md,a!]
  grind
 by_cases hc:a.a=3/\t.af.a=3/\t.af.g=0/\t.Value.a=4/\t.Value.g=0
 .rw[s6 hc]at b;exact rn (v:=⟨3,0,p.1⟩) (e:=p.2) b (by grind[qa,Md])
 grind[Yy]
theorem ad5{c:bz}{env:ia}(ha:Ga a) (hb:Ga b) (hc:Ga c):DA (Qb ⟨26,N⟩ [a,b,c] env):=by
 by_cases h:a.a=1/\b.a=c.a/\b.g=c.g
 .have d:ea ⟨26,N⟩ [a,b,c] env=M a35:=by
   grind[ea,je,Md,fI,SS]
  by_cases hN:a.N=1
  .exact rn (v:=b) (e:=0) d (by grind[qa,Md,fI])
  .exact rn (v:=c) (e:=0) d (by grind[qa,Md,SS])
 grind[ea,je,Md,fI,SS,Yy]
theorem KC{env:ia}(h:1<=op/\op<=5):DA (Qb ⟨op,N⟩ [] env):=by
 refine rn (v:=⟨op,0,N⟩) (e:=0) ?_ ?_
 .have:op=1\/op=2\/op=3\/op=4\/op=5:=U
  rcases this with rfl|rfl|rfl|rfl|rfl<;>simp[ea]
 .have:op=1\/op=2\/op=3\/op=4\/op=5:=U
  rcases this with rfl|rfl|rfl|rfl|rfl<;>simp[qa]
theorem MD{env:ia}(h:(11<=op/\op<=24)\/(27<=op/\op<=30)):ea ⟨op,N⟩ [a,b] env=Aa op a b:=by
 unfold ea;dsimp only;rw[p5,p5,p5,p5,I8,u4 U,p5 l5,p5 l5,J l5,Md,fI,a!,a!];simp
theorem Yx{env:ia}(h:(11<=op/\op<=24)\/(27<=op/\op<=30)):qa ⟨op,N⟩ [a,b] env=Ma ⟨op,N⟩ a b:=by
 unfold qa;dsimp only;have c:(op==5)=a36:=o0
 rw[p5,p5,p5,p5,c,a!,p5 l5,p5,p5,p5,p5,p5,I8,u4 U,p5 l5,p5,p5,p5 l5,J l5,Md,fI,a!,a!,oj]
def JR(a b:bz):Prop:=a.a=b.a/\a.g=b.g
instance (a b:bz):Decidable (JR a b):=by unfold JR;infer_instance
theorem Kg(a b:bz):je a b=M (s5 (JR a b)):=by
 unfold je JR;by_cases c:a.a=b.a<;>by_cases h2:a.g=b.g<;>simp[c,h2]
theorem smO:(b? (α:=Bool) (if a.a=b.a then M (a.g !=b.g)else M a35) k)=k (s5 (¬JR a b)):=by
 unfold JR;by_cases c:a.a=b.a
 .rw[J c,a!];congr 1
  grind
 simp_all
theorem tn.ite[Decidable c] {env:ia}{e:Int}(a:ea n args env=M (decide c)) (hco:c->qa n args env=M (v,e)) (b:ob n args env=if c then M (if e=0 then Xq v else(⟨0,0,0⟩,e))else M (⟨0,0,0⟩,8)):tn (Qb n args env) (ob n args env):=by
 by_cases h:c
 .rw[s6 h]at a;rw[J h]at b
  grind[qe]
 .rw[u4 h]at a;rw[p5 h]at b
  grind[An]
theorem xF{a b:Prop} [Decidable a] [Decidable b]:(if decide a=a35 then M (decide b)else M a36)=M (s5 (a/\b)):=by
 grind
theorem P0{env:ia}(d:op=11\/op=12) (ha:Ga a) (hb:Ga b):tn (Qb ⟨op,N⟩ [a,b] env) (ob ⟨op,N⟩ [a,b] env):=by
 have h1:=ha.range;have h2:=hb.range;have c:ea ⟨op,N⟩ [a,b] env=M (s5 (JR a b/\2<=a.a/\a.a<=4)):=by
  rw[MD U];rcases d with rfl|rfl<;>simp only[Aa,t?,w3,s7,a!,Kg,wc,xF,E?]
 rcases d with rfl|rfl
 .refine tn.ite (v:=⟨a.a,0,a.N+b.N⟩) (e:=0) c (λ_=>?_) ?_
  .rw[Yx U];simp only[Ma,w3,a!,g! (n:=a.N+b.N) U U]
  .simp only[ob,Bb,G1,D2,bd,smO,Gk,Ρ,t?,E?,w3,s7,a!,t!,g! (n:=a.N+b.N) U U,Cb,oj]
   grind
 .refine tn.ite (v:=⟨a.a,0,a.N-b.N⟩) (e:=0) c (λ_=>?_) ?_
  .rw[Yx U];simp only[Ma,t?,E?,w3,s7,t!,a!,g! (n:=a.N-b.N) U U]
  .simp only[ob,Bb,G1,D2,bd,smO,Gk,Ρ,t?,E?,w3,s7,a!,t!,g! (n:=a.N-b.N) U U,Cb,oj]
   grind
theorem bw4(h:JR a b) (hn:a.N=b.N):a=b:=by
 obtain⟨k,e,n⟩:=a;obtain⟨k',e',n'⟩:=b;obtain⟨h1,h2⟩:=h
 simp_all
theorem Q0{env:ia}(c:op=17\/op=18) (ha:Ga a) (hb:Ga b):tn (Qb ⟨op,N⟩ [a,b] env) (ob ⟨op,N⟩ [a,b] env):=by
 have h1:=ha.range;have hk:(2<=a.a/\a.a<=5)↔((2<=a.a/\a.a<=4)\/a.a=5):=U
 have d:ea ⟨op,N⟩ [a,b] env=M (s5 (JR a b/\2<=a.a/\a.a<=5)):=by
  rw[MD U];rcases c with rfl|rfl<;>simp only[Aa,t?,w3,s7,a!,Kg,wc,xF,E?,t!,hk]
  all_goals grind
 have i:ob ⟨op,N⟩ [a,b] env=if JR a b/\2<=a.a/\a.a<=5 then M (if(op==17)=s5 (a.N<b.N)then(a,0)else(b,0))else M (⟨0,0,0⟩,8):=by
  rcases c with rfl|rfl<;>simp only[ob,Bb,G1,D2,bd,smO,Gk,Ρ,t?,E?,w3,s7,a!,t!,oj,hk]
  all_goals grind
 have f:JR a b/\2<=a.a/\a.a<=5->qa ⟨op,N⟩ [a,b] env=M ((if(op==17)=s5 (a.N<b.N)then a else b),0):=by
  intro hc;rw[Yx U];have he:=λh=>bw4 hc.1 h;rcases c with rfl|rfl<;>simp only[Ma,Ρ,t?,E?,w3,s7,a!,t!]
  all_goals grind
 refine tn.ite (e:=0) d f ?_;rw[i,J rfl];by_cases g:(op==17)=s5 (a.N<b.N)
 all_goals simp_all[dD]
theorem S0{env:ia}(d:op=19\/op=20) (ha:Ga a) (hb:Ga b):tn (Qb ⟨op,N⟩ [a,b] env) (ob ⟨op,N⟩ [a,b] env):=by
 have c:ea ⟨op,N⟩ [a,b] env=M (s5 (JR a b)):=by
  rw[MD U];rcases d with rfl|rfl<;>simp only[Aa,t?,w3,s7,a!,Kg,E?,t!]
 rcases d with rfl|rfl
 .refine tn.ite (v:=⟨1,0,if(a.N==b.N)=a35 then 1 else 0⟩) (e:=0) c (λ_=>?_) ?_
  .simp_all[Ma,Yx,sf]
  .simp only[ob,Bb,G1,D2,bd,smO,Ρ,t?,E?,w3,s7,a!,t!,pn,oj,qx];simp
 .refine tn.ite (v:=⟨1,0,if(a.N !=b.N)=a35 then 1 else 0⟩) (e:=0) c (λ_=>?_) ?_
  .simp_all[Ma,Yx,sf]
  .simp only[ob,Bb,G1,D2,bd,smO,Ρ,t?,E?,w3,s7,a!,t!,pn,oj,qx];simp
theorem T0{env:ia}(d:op=21\/op=22) (ha:Ga a) (hb:Ga b):tn (Qb ⟨op,N⟩ [a,b] env) (ob ⟨op,N⟩ [a,b] env):=by
 have hk:(2<=a.a/\a.a<=5)↔((2<=a.a/\a.a<=4)\/a.a=5):=U
 have c:ea ⟨op,N⟩ [a,b] env=M (s5 (JR a b/\2<=a.a/\a.a<=5)):=by
  rw[MD U];rcases d with rfl|rfl<;>simp only[Aa,t?,w3,s7,a!,Kg,wc,xF,E?,t!,hk]
  all_goals grind
 rcases d with rfl|rfl
 .refine tn.ite (v:=⟨1,0,if s5 (a.N<b.N)=a35 then 1 else 0⟩) (e:=0) c (λ_=>?_) ?_
  .simp_all[Ma,Yx,sf]
  .simp only[ob,Bb,G1,D2,bd,smO,Gk,Ρ,t?,E?,w3,s7,a!,t!,pn,oj,qx,hk]
   grind
 .refine tn.ite (v:=⟨1,0,if s5 (a.N<=b.N)=a35 then 1 else 0⟩) (e:=0) c (λ_=>?_) ?_
  .simp_all[Ma,Yx,sf]
  .simp only[ob,Bb,G1,D2,bd,smO,Gk,Ρ,t?,E?,w3,s7,a!,t!,pn,oj,qx,hk]
   grind
theorem iT(h:Ga a) (hk:a.a=1):a.g=0/\(a.N=0\/a.N=1):=by unfold Ga at h;omega
theorem U0{env:ia}(d:op=23\/op=24) (ha:Ga a) (hb:Ga b):tn (Qb ⟨op,N⟩ [a,b] env) (ob ⟨op,N⟩ [a,b] env):=by
 have h1:=ha.range;have h2:=hb.range;have c:ea ⟨op,N⟩ [a,b] env=M (s5 (a.a=1/\b.a=1)):=by
  rw[MD U];rcases d with rfl|rfl<;>simp only[Aa,t?,w3,s7,a!,E?,t!]
  all_goals grind
 have f:(JR a b/\a.a=1)↔(a.a=1/\b.a=1):=by
  unfold JR
  grind[iT]
 by_cases hc:a.a=1/\b.a=1
 .have e1:=iT ha hc.1;have e2:=iT hb hc.2;have hs:=f.2 hc;have n1:=e1.2;have n2:=e2.2;rw[s6 hc]at c;have e:qa ⟨op,N⟩ [a,b] env=M (⟨1,0,if(if op=23 then s5 (a.N=1/\b.N=1)else s5 (a.N=1\/b.N=1))=a35 then 1 else 0⟩,0):=by
   rw[Yx U];rcases d with rfl|rfl<;>simp only[Ma,t?,E?,w3,s7,t!,a!,sf]
   all_goals grind
  have hre:ob ⟨op,N⟩ [a,b] env=M (Xq ⟨1,0,if(if op=23 then s5 (a.N=1/\b.N=1)else s5 (a.N=1\/b.N=1))=a35 then 1 else 0⟩):=by
   rw[qx];rcases d with rfl|rfl<;>simp only[ob,Bb,G1,D2,bd,smO,Ρ,t?,E?,w3,s7,a!,t!,pn,oj,g! (n:=a.N+b.N) U U]
   all_goals grind
  exact qe c e l4
 .rw[u4 hc]at c;refine An c ?_;rcases d with rfl|rfl<;>simp only[ob,Bb,G1,D2,bd,smO,Ρ,t?,E?,w3,s7,a!,t!,pn,oj]
  all_goals simp_all
theorem aP1{env:ia}(ha:Ga a) (hb:Ga b):tn (Qb ⟨27,N⟩ [a,b] env) (ob ⟨27,N⟩ [a,b] env):=by
 have h1:=ha.range;have h2:=hb.range;have c:ea ⟨27,N⟩ [a,b] env=M (s5 (a.a=5/\b.a=2)):=by
  rw[MD U]
  grind[Aa]
 refine tn.ite (v:=⟨5,0,a.N+b.N⟩) (e:=0) c (λhc=>?_) ?_
 .rw[Yx U];simp only[Ma,t?,E?,w3,s7,t!,a!,g! (n:=a.N+b.N) U U,hc.1]
 .simp only[ob,Bb,G1,D2,Xo,Ρ,t?,E?,w3,s7,a!,t!,g! (n:=a.N+b.N) U U,Cb,oj,not_true]
  grind
theorem aR5(a:Int) (j:Int) (ha:0<=a/\a<=109572):∃p,mf a j=M p/\Rg a j=M p:=by
 by_cases hj:-3600<=j/\j<=3600
 .obtain⟨n,m,k,b⟩:=rF ha.1 ha.2;exact⟨_,Ss b hj,Yv b hj⟩
 simp_all[mf,Rg,Ul,lu]
theorem by7(h:Ga a) (hk:a.a=5):0<=a.N/\a.N<=109572:=by unfold Ga at h;omega
theorem aP0{env:ia}(ha:Ga a) (hb:Ga b):tn (Qb ⟨28,N⟩ [a,b] env) (ob ⟨28,N⟩ [a,b] env):=by
 have c:ea ⟨28,N⟩ [a,b] env=M (s5 (a.a=5/\b.a=2)):=by
  rw[MD U]
  grind[Aa]
 by_cases hc:a.a=5/\b.a=2
 .obtain⟨p,p1,d⟩:=aR5 a.N b.N (by7 ha hc.1);rw[s6 hc]at c;refine qe (v:=⟨5,0,p.1⟩) (e:=p.2) c ?_ ?_
  .simp_all[Ma,Yx]
  .simp only[ob,Bb,G1,D2,Xo,Ρ,t?,E?,w3,s7,a!,t!,d,Cp,oj,not_true,hc.1,hc.2,R1]
 .rw[u4 hc]at c;refine An c ?_
  grind[ob,Bb,Xo]
theorem V0{env:ia}(d:op=29\/op=30) (ha:Ga a) (hb:Ga b):tn (Qb ⟨op,N⟩ [a,b] env) (ob ⟨op,N⟩ [a,b] env):=by
 have h1:=ha.range;have h2:=hb.range;have c:ea ⟨op,N⟩ [a,b] env=M (s5 (a.a=5/\b.a=5)):=by
  rw[MD U];rcases d with rfl|rfl<;>simp only[Aa,t?,w3,s7,a!,E?,t!]
  all_goals grind
 obtain⟨y,y1,f,-⟩:=ax5 a.N b.N;rcases d with rfl|rfl
 .refine tn.ite (v:=⟨2,0,b.N-a.N⟩) (e:=0) c (λhc=>?_) ?_
  .rw[Yx U];simp only[Ma,t?,E?,w3,s7,t!,a!,g! (n:=b.N-a.N) U U]
  .simp only[ob,Bb,G1,D2,Xo,Ρ,t?,E?,w3,s7,a!,t!,g! (n:=b.N-a.N) U U,Cb,oj,not_true,R1]
   grind
 .refine tn.ite (v:=⟨2,0,y⟩) (e:=0) c (λhc=>?_) ?_
  .simp_all[Ma,Yx]
  .simp only[ob,Bb,G1,D2,Xo,Ρ,t?,E?,w3,s7,a!,t!,f,Cb,oj,not_true,R1]
   grind
theorem DA.ite[Decidable c] {env:ia}{e:Int}(hal:ea n args env=M (decide c)) (hco:c->qa n args env=M (v,e)):DA (Qb n args env):=by
 by_cases h:c
 all_goals grind[rn,Yy]
theorem RW{env:ia}(d:op=11\/op=12) (ha:Ga a) (hb:Ga b):DA (Qb ⟨op,N⟩ [a,b] env):=by
 have h1:=ha.range;have h2:=hb.range;have c:ea ⟨op,N⟩ [a,b] env=M (s5 (JR a b/\2<=a.a/\a.a<=4)):=by
  rw[MD U];rcases d with rfl|rfl<;>simp only[Aa,t?,w3,s7,a!,Kg,wc,xF,E?]
 rcases d with rfl|rfl
 .refine DA.ite (v:=⟨a.a,0,a.N+b.N⟩) (e:=0) c (λ_=>?_);rw[Yx U];simp only[Ma,w3,a!,g! (n:=a.N+b.N) U U]
 .refine DA.ite (v:=⟨a.a,0,a.N-b.N⟩) (e:=0) c (λ_=>?_);rw[Yx U];simp only[Ma,t?,E?,w3,s7,t!,a!,g! (n:=a.N-b.N) U U]
theorem SW{env:ia}(c:op=17\/op=18) (ha:Ga a) (hb:Ga b):DA (Qb ⟨op,N⟩ [a,b] env):=by
 have h1:=ha.range;have hk:(2<=a.a/\a.a<=5)↔((2<=a.a/\a.a<=4)\/a.a=5):=U
 have hal:ea ⟨op,N⟩ [a,b] env=M (s5 (JR a b/\2<=a.a/\a.a<=5)):=by
  rw[MD U];rcases c with rfl|rfl<;>simp only[Aa,t?,w3,s7,a!,Kg,wc,xF,E?,t!,hk]
  all_goals grind
 have hco:JR a b/\2<=a.a/\a.a<=5->qa ⟨op,N⟩ [a,b] env=M ((if(op==17)=s5 (a.N<b.N)then a else b),0):=by
  intro hc;rw[Yx U];have he:=λh=>bw4 hc.1 h;rcases c with rfl|rfl<;>simp only[Ma,Ρ,t?,E?,w3,s7,a!,t!]
  all_goals grind
 grind[DA.ite]
theorem TW{env:ia}(d:op=19\/op=20):DA (Qb ⟨op,N⟩ [a,b] env):=by
 have c:ea ⟨op,N⟩ [a,b] env=M (s5 (JR a b)):=by
  rw[MD U];rcases d with rfl|rfl<;>simp only[Aa,t?,w3,s7,a!,Kg,E?,t!]
 rcases d with rfl|rfl
 .refine DA.ite (v:=⟨1,0,if(a.N==b.N)=a35 then 1 else 0⟩) (e:=0) c (λ_=>?_)
  simp_all[Ma,Yx,sf]
 .refine DA.ite (v:=⟨1,0,if(a.N !=b.N)=a35 then 1 else 0⟩) (e:=0) c (λ_=>?_)
  simp_all[Ma,Yx,sf]
theorem UW{env:ia}(d:op=21\/op=22):DA (Qb ⟨op,N⟩ [a,b] env):=by
 have hk:(2<=a.a/\a.a<=5)↔((2<=a.a/\a.a<=4)\/a.a=5):=U
 have c:ea ⟨op,N⟩ [a,b] env=M (s5 (JR a b/\2<=a.a/\a.a<=5)):=by
  rw[MD U];rcases d with rfl|rfl<;>simp only[Aa,t?,w3,s7,a!,Kg,wc,xF,E?,t!,hk]
  all_goals grind
 rcases d with rfl|rfl
 .refine DA.ite (v:=⟨1,0,if s5 (a.N<b.N)=a35 then 1 else 0⟩) (e:=0) c (λ_=>?_)
  simp_all[Ma,Yx,sf]
 .refine DA.ite (v:=⟨1,0,if s5 (a.N<=b.N)=a35 then 1 else 0⟩) (e:=0) c (λ_=>?_)
  simp_all[Ma,Yx,sf]
theorem VW{env:ia}(c:op=23\/op=24) (ha:Ga a) (hb:Ga b):DA (Qb ⟨op,N⟩ [a,b] env):=by
 have d:ea ⟨op,N⟩ [a,b] env=M (s5 (a.a=1/\b.a=1)):=by
  rw[MD U];rcases c with rfl|rfl<;>simp only[Aa,t?,w3,s7,a!,E?,t!]
  all_goals grind
 refine DA.ite (v:=⟨1,0,if(if op=23 then s5 (a.N=1/\b.N=1)else s5 (a.N=1\/b.N=1))=a35 then 1 else 0⟩) (e:=0) d λhc=>?_;have n1:=(iT ha hc.1).2;have n2:=(iT hb hc.2).2;rw[Yx U];rcases c with rfl|rfl<;>simp only[Ma,t?,E?,w3,s7,t!,a!,sf]
 all_goals grind
theorem ad4{env:ia}(ha:Ga a) (hb:Ga b):DA (Qb ⟨27,N⟩ [a,b] env):=by
 have h1:=ha.range;have h2:=hb.range;have c:ea ⟨27,N⟩ [a,b] env=M (s5 (a.a=5/\b.a=2)):=by
  rw[MD U]
  grind[Aa]
 refine DA.ite (v:=⟨5,0,a.N+b.N⟩) (e:=0) c (λhc=>?_);rw[Yx U];simp only[Ma,t?,E?,w3,s7,t!,a!,g! (n:=a.N+b.N) U U,hc.1]
theorem cB2(a:Int) (j:Int) (ha:0<=a/\a<=109572):∃p,mf a j=M p:=by
 by_cases hj:-3600<=j/\j<=3600
 .obtain⟨n,m,k,b⟩:=rF ha.1 ha.2;exact⟨_,Ss b hj⟩
 simp_all[mf,Ul]
theorem ad3{env:ia}(ha:Ga a):DA (Qb ⟨28,N⟩ [a,b] env):=by
 have c:ea ⟨28,N⟩ [a,b] env=M (s5 (a.a=5/\b.a=2)):=by
  rw[MD U]
  grind[Aa]
 by_cases hc:a.a=5/\b.a=2
 .obtain⟨p,p1⟩:=cB2 a.N b.N (by7 ha hc.1);rw[s6 hc]at c;refine rn (v:=⟨5,0,p.1⟩) (e:=p.2) c ?_
  simp_all[Ma,Yx]
 grind[Yy]
theorem WW{env:ia}(d:op=29\/op=30) (ha:Ga a) (hb:Ga b):DA (Qb ⟨op,N⟩ [a,b] env):=by
 have h1:=ha.range;have h2:=hb.range;have c:ea ⟨op,N⟩ [a,b] env=M (s5 (a.a=5/\b.a=5)):=by
  rw[MD U];rcases d with rfl|rfl<;>simp only[Aa,t?,w3,s7,a!,E?,t!]
  all_goals grind
 obtain⟨y,y1,-⟩:=ax6 a.N b.N;rcases d with rfl|rfl
 .refine DA.ite (v:=⟨2,0,b.N-a.N⟩) (e:=0) c (λhc=>?_);rw[Yx U];simp only[Ma,t?,E?,w3,s7,t!,a!,g! (n:=b.N-a.N) U U]
 .refine DA.ite (v:=⟨2,0,y⟩) (e:=0) c (λhc=>?_)
  simp_all[Ma,Yx]
structure cq4 (i:Nat) (st sk:List Int):Prop where
 len:st.length=i
 pos:0<i->sk≠[]
 zero:i=0->sk=[]
 last:∀k,k+1=sk.length->st[i-1]?=sk[k]?
 chain:∀j,j+1<sk.length->∃a b:Nat,sk[j]?=M (a:Int)/\sk[j+1]?=M (b:Int)/\a<b/\st[b-1]?=M (a:Int)
 bound:∀j,j<sk.length->∃a:Nat,sk[j]?=M (a:Int)/\a<i
theorem NZ{e:List fr}(h:X? e):∀i,i<=e.length->cq4 i (Ki e i).1 (Ki e i).2
 |0,_=>by
  refine⟨rfl,U,λ_=>rfl,?_,?_,?_⟩
  all_goals grind[Ki]
 |i+1,hi=>by
  have d:=NZ h i U;obtain⟨a1,a2,a3⟩:=h.ar (i:=i) U;have o:Ki e (i+1)=((Ki e i).1++[if 0<Fj e i then((Ki e i).2[(Ki e i).2.length-Fj e i]?).getD 0 else(i:Int)],(Ki e i).2.take ((Ki e i).2.length-Fj e i)++[if 0<Fj e i then((Ki e i).2[(Ki e i).2.length-Fj e i]?).getD 0 else(i:Int)]):=rfl;rw[o];generalize (Ki e i).1=st at d⊢;generalize (Ki e i).2=sk at d a2⊢;generalize Fj e i=a at a2⊢;obtain⟨f,hf,hfi,m⟩:∃f:Nat,(if 0<a then(sk[sk.length-a]?).getD 0 else(i:Int))=(f:Int)/\f<=i/\(∀j,j+1=sk.length-a->∃b:Nat,sk[j]?=M (b:Int)/\b<f/\st[f-1]?=M (b:Int)):=by
   by_cases ha:0<a
   .obtain⟨f,h1,h2⟩:=d.bound (sk.length-a) U;refine⟨f,l4,U,λj hj=>?_⟩;obtain⟨x,y,l,g,k3,k4⟩:=d.chain j U
    grind
   .refine⟨i,U,U,λj hj=>?_⟩;obtain⟨x,l,g⟩:=d.bound j U;refine⟨x,l,g,?_⟩;rw[←l];exact d.last j U
  rw[hf];have c:(sk.take (sk.length-a)).length=sk.length-a:=l5
  refine⟨by simp[d.len],λ_=>l5,λh=>U,?_,?_,?_⟩
  .intro k hk;simp only[Χ,c,mab]at hk;rw[yae,cac (by rw[d.len];omega),d.len,vac,cac U,c,show k-(sk.length-a)=0 by omega]
  .intro j hj;simp only[Χ,c,mab]at hj;by_cases n:j+1<sk.length-a
   .obtain⟨x,y,l,g,k3,k4⟩:=d.chain j U;obtain⟨y',q1,q2⟩:=d.bound (j+1) U;rw[g]at q1;injection q1 with q1;refine⟨x,y,?_,?_,k3,?_⟩
    all_goals grind
   .obtain⟨x,l,g,k3⟩:=m j U;refine⟨x,f,?_,?_,g,?_⟩
    all_goals grind
  .intro j hj;simp only[Χ,c,mab]at hj;by_cases n:j<sk.length-a
   .obtain⟨x,l,g⟩:=d.bound j U
    grind
   grind
theorem HT{e:List fr}:∀{n i k:Nat},i<=n->k<i->(Ki e n).1[k]?=(Ki e i).1[k]?
 |0,i,k,h,hk=>U
 |n+1,i,k,h,hk=>by
  by_cases hin:i=n+1
  .simp_all
  .have:(Ki e (n+1)).1=(Ki e n).1++[if 0<(Fb (pd e n).Op).toNat then((Ki e n).2[(Ki e n).2.length-(Fb (pd e n).Op).toNat]?).getD 0 else(n:Int)]:=rfl;rw[this,List.getElem?_append_left (by grind[UI])];exact HT U hk
def lz(e:List fr) (i j:Nat):Nat:=if j+1=Fj e i then i-1 else(((Ki e i).2[(Ki e i).2.length-Fj e i+j+1]?).getD 0).toNat-1
def dL(e:List fr) (i:Nat):List Int:=(o? (Fj e i)).map λj=>(lz e i j:Int)
theorem Mx{e:List fr}(h:X? e) {i:Nat}(hi:i<e.length) (hj:j<Fj e i):lz e i j<i/\∃s:Nat,(Ki e e.length).1[lz e i j]?=M (s:Int)/\(∀d,d+1=j->lz e i d+1=s):=by
 have b:=NZ h i U;obtain⟨a1,a2,a3⟩:=h.ar hi;have hi0:0<i:=by
  rcases Had i with l|l
  .have:=b.zero l;simp_all
  omega
 have g:lz e i j<i/\∃s:Nat,(Ki e i).1[lz e i j]?=M (s:Int)/\(Ki e i).2[(Ki e i).2.length-Fj e i+j]?=M (s:Int):=by
  unfold lz;generalize (Ki e i).1=st at b⊢;generalize (Ki e i).2=sk at b a2⊢;generalize Fj e i=a at a2 hj⊢;by_cases c:j+1=a
  .rw[J c];obtain⟨x,k,m⟩:=b.bound (sk.length-a+j) U;exact⟨U,x,by rw[b.last (sk.length-a+j) U];omega,k⟩
  .rw[p5 c];obtain⟨x,y,k,m,k3,k4⟩:=b.chain (sk.length-a+j) U;obtain⟨y',q1,q2⟩:=b.bound (sk.length-a+j+1) U
   grind
 obtain⟨n,s,h2,h3⟩:=g;refine⟨n,s,by grind[HT],λd f=>?_⟩;subst f;obtain⟨x,y,k,m,k3,k4⟩:=b.chain ((Ki e i).2.length-Fj e i+d) U
 grind[lz]
theorem KW{e:List fr}(h:X? e):∀{n k s:Nat},n<=e.length->(Ki e n).1[k]?=M (s:Int)->s<=k
 |0,k,s,_,a=>by grind[Ki]
 |n+1,k,s,hn,a=>by
  have hk:k<n+1:=by
   grind[UI]
  by_cases b:k=n
  .subst b;have c:=NZ h (k+1) hn;have hne:=c.pos U;obtain⟨q,hq⟩:∃q,q+1=(Ki e (k+1)).2.length:=⟨(Ki e (k+1)).2.length-1,by grind[List.length_pos_iff]⟩;have d:=c.last q hq;rw[yae,a]at d;obtain⟨x,k1,k2⟩:=c.bound q U
   grind
  .rw[HT (i:=n) U U]at a;exact KW h U a
theorem sH{e:List fr}(h:X? e):Lp e=((Ki e e.length).1,0,0):=by
 have:=h.pos;have:=h.le;have:=h.one;unfold Lp;rw[p5,p5,Xa.2 h.err]
 simp_all
theorem aW{e:List fr}(h:X? e) {i:Nat}(hi:i<e.length) {step:List Int×Int×Int->Option (Ex (List Int×Int×Int) (List Int) Unit)}
 (g:∀a b c,step (a,b,c)=if 0<=c then(c! a c).bind λ_=>(put a c b).bind λm=>(c! (Ki e e.length).1 b).bind λk=>M (.go (m,aa b! (k-1),aa b! (c-1)))else M (.brk a)) :
 ca step (l! (Fj e i) 0,(i:Int)-1,(Fj e i:Int)-1)=M (.inl (dL e i)):=by
 have hle:=h.le;obtain⟨a1,a2,a3⟩:=h.ar hi;have ha3:Fj e i<=12:=by have:=Ax (e:=e) (i:=i) λj hj=>h.err j U;omega
 refine Uc (λt=>(l! (Fj e i-t) 0++(dL e i).drop (Fj e i-t),(if t=0 then(i:Int)-1 else if t=Fj e i then(((Ki e e.length).1[lz e i 0]?).getD 0)-1 else(lz e i (Fj e i-t-1):Int)),(Fj e i:Int)-1-t)) (Fj e i) _ (λt ht=>?_) ?_ ?_
 .obtain⟨j,hj⟩:∃j,Fj e i=t+j+1:=⟨Fj e i-t-1,U⟩;obtain⟨o1,s,l,o3⟩:=Mx h hi (j:=j) U;rw[g];have d:(if t=0 then(i:Int)-1 else if t=Fj e i then(((Ki e e.length).1[lz e i 0]?).getD 0)-1 else(lz e i (Fj e i-t-1):Int))=(lz e i j:Int):=by
   by_cases t0:t=0
   .grind[lz]
   grind
  rw[d,J,show(Fj e i:Int)-1-t=((j:Nat):Int) by omega];have hL:(dL e i).length=Fj e i:=by simp[dL]
  rw[wa (i:=j) o0,a!,WD o0,a!];rw[ao1,l,a!];have f:(l! (Fj e i-t) 0++(dL e i).drop (Fj e i-t)).set j (lz e i j:Int)=l! (Fj e i-(t+1)) 0++(dL e i).drop (Fj e i-(t+1)):=by
   rw[show Fj e i-t=j+1 by omega,show Fj e i-(t+1)=j by omega,List.replicate_succ',P?,Fac _ _ l5,Tab,vac]
   grind[dL,Yaa]
  have hlt:lz e i j<(Ki e e.length).1.length:=o0
  have g:(s:Int)-1=(if t+1=0 then(i:Int)-1 else if t+1=Fj e i then(((Ki e e.length).1[lz e i 0]?).getD 0)-1 else(lz e i (Fj e i-(t+1)-1):Int)):=by
   rw[p5];by_cases j0:j=0
   all_goals grind
  have hsb:(0:Int)<=s/\(s:Int)<=100:=by
   have:=KW h (x? _) l;omega
  rw[f,g! (n:=(s:Int)-1) U U,g! (n:=((j:Nat):Int)-1) U U,g];congr 4;omega
 .grind
 simp_all[dL]
theorem xC{e:List fr}(h:X? e) {i:Nat}(hi:i<e.length):Vr e (i:Int)=M (dL e i):=by
 have hle:=h.le;obtain⟨a1,a2,a3⟩:=h.ar hi;have ha3:Fj e i<=12:=by have:=Ax (e:=e) (i:=i) λj hj=>h.err j U;omega
 have f:Fb (pd e i).Op=(Fj e i:Int):=by grind[Fj]
 unfold Vr;rw[ew,sH h,a!];dsimp only;have d:(if(0:Int)=0 then if¬(i:Int)<0 then M (s5 ((e.length:Int)<=(i:Int)))else M a35 else M a35)=M a36:=by
  simp_all
 rw[d];simp only[a!,t!,s7];rw[wa hi,a!,Hn hi,Qx,a!,f,DB U U,a!,g! (n:=(i:Int)-1) U U,g! (n:=(Fj e i:Int)-1) U U,aW h hi λa b c=>by grind[bw]];rfl
theorem Bu{e:List fr}(h:X? e) {i:Nat}(hi:i<e.length) {env:ia}:Of ⟨e,(Ki e e.length).1,env⟩ (i:Int)=M (dL e i):=by
 have hle:=h.le;obtain⟨a1,a2,a3⟩:=h.ar hi;have ha3:Fj e i<=12:=by have:=Ax (e:=e) (i:=i) λj hj=>h.err j U;omega
 have d:Fb (pd e i).Op=(Fj e i:Int):=by grind[Fj]
 unfold Of;dsimp only;rw[wa hi,a!,Hn hi,lp,a!,d,DB U U,a!,Tab,g! (n:=(i:Int)-1) U U,g! (n:=(Fj e i:Int)-1) U U,aW h hi λa b c=>by grind[fk]];rfl
def TP(e:List fr) (env:ia) (i:Nat):bz×Int:=((Fa (3*i+3)).1 e i env).getD (⟨0,0,0⟩,0)
structure Λ (e:List fr) (env:ia) (i:Nat):Prop where
 p:∀n,3*i+3<=n->(ba n).1 ⟨e,(Ki e e.length).1,env⟩ i=M (TP e env i)
 r:∀n,3*i+3<=n->(Fa n).1 e i env=M (TP e env i)
 ok:(TP e env i).2=0->Ga (TP e env i).1
theorem YV{e:List fr}{env:ia}{i:Nat}(q:bz×Int) (h1:∀n,3*i+3<=n->(ba n).1 ⟨e,(Ki e e.length).1,env⟩ i=M q) (h2:∀n,3*i+3<=n->(Fa n).1 e i env=M q) (h3:q.2=0->Ga q.1):Λ e env i:=by
 have:TP e env i=q:=by simp_all[TP]
 exact⟨l4,l4,l4⟩
theorem OG(e:List fr) (i:Nat):Fj e i<=3:=by
 grind[Fj,Fb]
def PD(e:List fr) (env:ia) (i:Nat):List bz:=(o? (Fj e i)).map λt=>(TP e env (lz e i t)).1
def XR(e:List fr) (env:ia) (i:Nat) (t:Nat):Option (bz×Int):=if¬(TP e env (lz e i t)).2=0 then M (⟨0,0,0⟩,(TP e env (lz e i t)).2)else q6
theorem uI(e:List fr) (i:Nat):(dL e i).length=Fj e i:=by simp[dL]
theorem sz{e:List fr}{i t:Nat}(h:t<Fj e i):c! (dL e i) (t:Int)=M ((lz e i t:Nat):Int):=by
 grind[dL,wa]
theorem dA{f:Nat->α}{k t:Nat}(h:t<k):((o? k).map f).take (t+1)=((o? k).map f).take t++[f t]:=by
 grind[O']
theorem br7{e:List fr}{env:ia}(h:X? e) {i:Nat}(hi:i<e.length) {n:Nat}(b:∀j,j<i->(ba n).1 ⟨e,(Ki e e.length).1,env⟩ j=M (TP e env j)) :
 ca (jb ⟨e,(Ki e e.length).1,env⟩ (dL e i) (ba n).1) (l! (Fj e i) ⟨0,0,0⟩,0)=M (Ib (PD e env i) (ff (XR e env i) (Fj e i))):=by
 have hl:=uI e i;have h3:=OG e i;refine xb (step:=jb ⟨e,(Ki e e.length).1,env⟩ (dL e i) (ba n).1) (λt=>((PD e env i).take t++l! (Fj e i-t) ⟨0,0,0⟩,(t:Int))) (XR e env i) (Fj e i) (PD e env i) (λt ht _=>?_) (λ_=>?_) l5
 .obtain⟨c,-⟩:=Mx h hi ht;have a:(PD e env i).length=Fj e i:=by simp[PD]
  unfold jb;dsimp only;rw[J,sz ht,a!,b _ c,a!];unfold XR;by_cases hc:(TP e env (lz e i t)).2=0
  .rw[p5 (v!.2 hc),p5 (v!.2 hc)];rw[wa o0,a!,WD o0,a!,pa U];unfold UD;dsimp only;congr 3;rw[Fac _ _ o0,show t-((PD e env i).take t).length=0 by grind,show Fj e i-t=(Fj e i-(t+1))+1 by omega,Ψ,Xab]
   grind[PD,dA]
  .rw[J hc,J hc];rfl
 .unfold jb;dsimp only;rw[p5,vac];have a:(PD e env i).length=Fj e i:=by simp[PD]
  grind
theorem br6{e:List fr}{env:ia}(h:X? e) {i:Nat}(hi:i<e.length) {n:Nat}(a:∀j,j<i->(Fa n).1 e j env=M (TP e env j)) :
 ca (wo e env (dL e i) (Fa n).1) (([]:List bz),0)=M (Ib (PD e env i) (ff (XR e env i) (Fj e i))):=by
 have hl:=uI e i;have h3:=OG e i;refine xb (step:=wo e env (dL e i) (Fa n).1) (λt=>((PD e env i).take t,(t:Int))) (XR e env i) (Fj e i) (PD e env i) (λt ht _=>?_) (λ_=>?_) l5
 .obtain⟨b,-⟩:=Mx h hi ht;unfold wo;dsimp only;rw[J,sz ht,a!,a _ b,a!];unfold XR;by_cases hc:(TP e env (lz e i t)).2=0
  .rw[p5 (v!.2 hc),p5 (v!.2 hc)]
   grind[UD,PD,me,pa,dA]
  .rw[J hc,J hc];rfl
 .unfold wo;dsimp only;have hlen:(PD e env i).length=Fj e i:=by simp[PD]
  grind
theorem D3:(b? (α:=Bool) (if op=23 then M a35 else if op=24 then M a35 else M (op==26)) k)=k (s5 (op=23\/op=24\/op=26)):=by
 grind
theorem am8:(b? (α:=Bool) (if¬op=23 then if¬op=24 then M (op==26)else M a35 else M a35) k)=k (s5 (op=23\/op=24\/op=26)):=by
 grind
def Wt(p:bz×Int):bz×Int:=if¬p.2=0 then(⟨0,0,0⟩,p.2)else if p.1.a=1/\Ga p.1 then p else(⟨0,0,0⟩,8)
theorem cp3:(b? (α:=Bool) (if v.a=1 then(Tb v).bind λa=>M (!a)else M a35) k)=k (s5 (¬(v.a=1/\Ga v))):=by
 grind[Nz,pb]
theorem bq3:(b? (α:=Bool) (if v.a=1 then(Hb v).bind λa=>M (!a)else M a35) k)=k (s5 (¬(v.a=1/\Ga v))):=by
 grind[Nz,Wd]
theorem au5{a:te->Int->Option (bz×Int)}{b c}{x:te}{j:Int}{p:bz×Int}(h:a x j=M p):cc a b c x j=M (Wt p):=by
 unfold cc Wt;rw[h,a!];simp only[cp3]
 grind
def VK(op N:Int) (a b c:bz×Int):bz×Int:=
 if¬N=0 then(⟨0,0,0⟩,2)else
 if¬(Wt a).2=0 then(⟨0,0,0⟩,(Wt a).2)else
 if op=26 then(if(Wt a).1.N=1 then b else c)else
 if(op==23)=((Wt a).1.N==0)then((Wt a).1,0)else Wt b
theorem GV{c a b:bz×Int}(h1:a.2=0->Ga a.1) (h2:b.2=0->Ga b.1):(VK op N c a b).2=0->Ga (VK op N c a b).1:=by
 grind[VK,Wt]
theorem aH4{e:List fr}(h:X? e) {env:ia}(hA:∀i,i<e.length->¬((pd e i).Op=23\/(pd e i).Op=24\/(pd e i).Op=26)->tn (og (pd e i) (PD e env i) env) (Zr (pd e i) (PD e env i) env)):∀i,i<e.length->Λ e env i:=by
 intro i
 induction i using Xac with
 |_ i o=>
  intro hi;have hle:=h.le;have har:=h.ar hi;have hga:=OG e i;have k:=uI e i;by_cases b:(pd e i).Op=23\/(pd e i).Op=24\/(pd e i).Op=26
  .have hk:2<=Fj e i/\((pd e i).Op=26->Fj e i=3):=by
    unfold Fj;rcases b with h|h|h<;>rw[h]<;>decide
   have B:=(Mx h hi (j:=0) U).1;have D:=(Mx h hi (j:=1) U).1;have z:=o _ B U;have l:=o _ D U;have A:c! (dL e i) 0=M ((lz e i 0:Nat):Int):=sz (t:=0) U;have y:c! (dL e i) 1=M ((lz e i 1:Nat):Int):=sz (t:=1) U;have g:(pd e i).Op=26->Λ e env (lz e i 2)/\lz e i 2<i/\c! (dL e i) 2=M ((lz e i 2:Nat):Int):=λa=>by
    grind[Mx,sz]
   refine YV (VK (pd e i).Op (pd e i).N (TP e env (lz e i 0)) (TP e env (lz e i 1)) (if(pd e i).Op=26 then TP e env (lz e i 2)else(⟨0,0,0⟩,1))) (λn hn=>?_) (λn hn=>?_) (GV l.ok (by
    split
    .rename_i a;exact(g a).1.ok
    omega))
   .obtain⟨n,rfl⟩:∃m,n=m+3:=⟨n-3,U⟩;show eb (ba (n+2)).1 (ba (n+2)).2.1 (ba (n+2)).2.2 _ _=_;unfold eb;dsimp only;rw[wa hi,a!,Hn hi,Bu h hi,a!,D3,s6 b,J rfl,oj];show Bd (ba (n+1)).1 (ba (n+1)).2.1 (ba (n+1)).2.2 _ _ _=_;unfold Bd VK;by_cases c:(pd e i).N=0
    case neg=>simp_all
    rw[p5 (v!.2 c),p5 (v!.2 c),A,a!];have s:∀j,j<i->Λ e env j->(ba (n+1)).2.2 ⟨e,(Ki e e.length).1,env⟩ (j:Int)=M (Wt (TP e env j)):=λj hj hb=>(show cc (ba n).1 (ba n).2.1 (ba n).2.2 _ _=_ from au5 (hb.p n U));rw[s _ B z,a!];by_cases hc:(Wt (TP e env (lz e i 0))).2=0
    case neg=>simp_all
    rw[p5 (v!.2 hc),p5 (v!.2 hc)];by_cases a:(pd e i).Op=26
    .obtain⟨c1,c2,c3⟩:=g a;rw[J a,J a,a!,J a,J a];by_cases f:(Wt (TP e env (lz e i 0))).1.N=1
     .rw[J l4,J f,y,a!,oj];exact l.p (n+1) U
     .rw[p5 l4,p5 f,c3,a!,oj];exact c1.p (n+1) U
    grind
   .obtain⟨n,rfl⟩:∃m,n=m+3:=⟨n-3,U⟩;show qn (Fa (n+2)).1 (Fa (n+2)).2 _ _ _=_;unfold qn;rw[xC h hi,a!,wa hi,a!,Hn hi,am8,s6 b,J rfl,oj];show iw (Fa (n+1)).1 (Fa (n+1)).2 _ _ _ _=_;unfold iw VK;rw[wa hi,a!,Hn hi];by_cases c:(pd e i).N=0
    case neg=>simp_all
    rw[p5 (v!.2 c),p5 (v!.2 c),A,a!,z.r (n+1) U,a!];simp only[bq3];obtain⟨d,w⟩:∃q,TP e env (lz e i 0)=q:=⟨_,rfl⟩;rw[w];by_cases c0:d.2=0
    case neg=>
     simp_all[Wt]
    rw[p5 (v!.2 c0)];by_cases c1:d.1.a=1/\Ga d.1
    case neg=>
     have:Wt d=(⟨0,0,0⟩,8):=by simp_all[Wt]
     simp_all
    have u:Wt d=d:=by simp_all[Wt]
    rw[u4 (p:=¬(d.1.a=1/\Ga d.1)) (λh=>h c1),p5 l5,u,p5 (v!.2 c0)];by_cases a:(pd e i).Op=26
    .obtain⟨d1,d2,C⟩:=g a;rw[J a,J a,J a];by_cases f:d.1.N=1
     .rw[J f,J f,y,a!,oj];exact l.r (n+1) U
     .rw[p5 f,p5 f,C,a!,oj];exact d1.r (n+1) U
    .rw[p5 a,p5 a];split
     .rfl
     .rw[y,a!,l.r (n+1) U,a!];obtain⟨q1,x⟩:∃q,TP e env (lz e i 1)=q:=⟨_,rfl⟩;rw[x];unfold Wt
      grind
  .obtain⟨q,q1,q2,q3⟩:=hA i hi b;have hff:∀v,ff (XR e env i) (Fj e i)=M v->v.2≠0:=by
    grind[XR,Oa]
   refine YV (match ff (XR e env i) (Fj e i)with|some v=>v|none=>q) (λn hn=>?_) (λn hn=>?_) ?_
   .obtain⟨n,rfl⟩:∃m,n=m+1:=⟨n-1,U⟩;show eb (ba n).1 (ba n).2.1 (ba n).2.2 _ _=_;unfold eb;dsimp only;rw[wa hi,a!,Hn hi,Bu h hi,a!,D3,u4 b,p5 l5,k,DB U U,a!,br7 h hi (λj hj=>(o j hj U).p n U),a!]
    grind[VJ,aZ]
   .obtain⟨n,rfl⟩:∃m,n=m+1:=⟨n-1,U⟩;show qn (Fa n).1 (Fa n).2 _ _ _=_;unfold qn;rw[xC h hi,a!,wa hi,a!,Hn hi,am8,u4 b,p5 l5,br6 h hi (λj hj=>(o j hj U).r n U),a!]
    grind[VJ,aZ]
   grind
theorem av4{l:List bz}(hl:l.length<=1048576):qg l=M (l.all Nz):=by
 have e1:ca (Jc l) 0=M (Ib () (ff (λi=>if(l[i]?.any λv=>!Nz v)=a35 then M a36 else q6) l.length)):=
  xb (λi=>(i:Int)) _ l.length () (λi hi _=>by
   unfold Jc;rw[J,wa hi,n! hi]
   grind[UD,pb,pa]) (λ_=>by grind[Jc])
 unfold qg;rw[e1];by_cases h:l.all Nz=a35
 .have hn:∀i,i<l.length->(l[i]?.any λv=>!Nz v)=a36:=by
   grind
  rw[Xa.2 (λi hi=>o0),h];rfl
 .have hb:l.all Nz=a36:=o0
  obtain⟨x,hx,hx2⟩:∃x∈l,Nz x=a36:=by
   grind
  obtain⟨k,hk,rfl⟩:=H' hx;have ne:ff (λi=>if(l[i]?.any λv=>!Nz v)=a35 then M a36 else q6) l.length=M a36:=by
   cases hf:ff (λi=>if(l[i]?.any λv=>!Nz v)=a35 then M a36 else q6) l.length with
   |none=>
    grind[Xa]
   |some w=>
    grind[Oa]
  rw[ne,hb];rfl
theorem rU{env:ia}(ha:args.length<=3) (h:1<=n.Op/\n.Op<=39->Fb n.Op=args.length->wfS n=a35->Kw n env=a35->(∀a∈args,Ga a)->DA (Qb n args env)):DA (og n args env):=by
 unfold og;rw[BJ,lp,yB,av4 (l:=args) U];simp only[a!];have err:∀{c:Int},c≠0->DA (M (⟨0,0,0⟩,c)):=λh=>⟨_,rfl,λh2=>absurd h2 h⟩;by_cases i:1<=n.Op/\n.Op<=39
 case neg=>grind
 rw[s6 i];simp only[Μ];by_cases h2:wfS n=a35
 case neg=>grind
 rw[h2];simp only[w3];by_cases m:Fb n.Op=args.length
 case neg=>
  grind
 have:((args.length:Int) !=Fb n.Op)=a36:=o0
 rw[this];simp only[a!,t!,s7];by_cases j:Kw n env=a35
 case neg=>grind
 rw[j];simp only[O!,s7];by_cases k:args.all Nz=a35
 case neg=>grind
 rw[k];simp only[w3];have o:∀a∈args,Ga a:=λa ha=>D1 (R'.1 k a ha);have hc:=h i m h2 j o;have e1:(b? (α:=Bool) ((ea n args env).bind λf=>M (!f)) λe=>if e=a35 then M ((⟨0,0,0⟩:bz),(8:Int))else(qa n args env).bind λd=>if¬d.2=0 then M (⟨0,0,0⟩,d.2)else(Tb d.1).bind λg=>if g=a36 then M (⟨0,0,0⟩,3)else M (d.1,0))=Qb n args env:=by
  unfold Qb
  cases ea n args env with
  |none=>rfl
  |some b=>
   grind[pb]
 grind
def iM(e:List fr) (env:ia) (i:Nat):bz×Int:=((ba (3*i+3)).1 ⟨e,(Ki e e.length).1,env⟩ i).getD (⟨0,0,0⟩,0)
def oJ(e:List fr) (env:ia) (i:Nat):List bz:=(o? (Fj e i)).map λt=>(iM e env (lz e i t)).1
def VX(e:List fr) (env:ia) (i:Nat) (t:Nat):Option (bz×Int):=if¬(iM e env (lz e i t)).2=0 then M (⟨0,0,0⟩,(iM e env (lz e i t)).2)else q6
def evQ(e:List fr) (env:ia) (i:Nat):bz×Int:=
 if(pd e i).Op=23\/(pd e i).Op=24\/(pd e i).Op=26 then
  VK (pd e i).Op (pd e i).N (iM e env (lz e i 0)) (iM e env (lz e i 1)) (if(pd e i).Op=26 then iM e env (lz e i 2)else(⟨0,0,0⟩,1))
 else match ff (VX e env i) (Fj e i)with
  |some v=>v
  |none=>(og (pd e i) (oJ e env i) env).getD (⟨0,0,0⟩,0)
structure Z? (e:List fr) (env:ia) (i:Nat):Prop where
 p:∀n,3*i+3<=n->(ba n).1 ⟨e,(Ki e e.length).1,env⟩ i=M (iM e env i)
 ok:(iM e env i).2=0->Ga (iM e env i).1
 q:iM e env i=evQ e env i
variable {i:Nat}{e:List fr}{env:ia}
theorem ZV(h1:∀n,3*i+3<=n->(ba n).1 ⟨e,(Ki e e.length).1,env⟩ i=M (evQ e env i)) (h3:(evQ e env i).2=0->Ga (evQ e env i).1):Z? e env i:=by
 have:iM e env i=evQ e env i:=by
  grind[iM]
 exact⟨o0,o0,this⟩
theorem aR1(h:X? e) (hi:i<e.length) {n:Nat}(b:∀j,j<i->(ba n).1 ⟨e,(Ki e e.length).1,env⟩ j=M (iM e env j)) :
 ca (jb ⟨e,(Ki e e.length).1,env⟩ (dL e i) (ba n).1) (l! (Fj e i) ⟨0,0,0⟩,0)=M (Ib (oJ e env i) (ff (VX e env i) (Fj e i))):=by
 have hl:=uI e i;have h3:=OG e i;refine xb (step:=jb ⟨e,(Ki e e.length).1,env⟩ (dL e i) (ba n).1) (λt=>((oJ e env i).take t++l! (Fj e i-t) ⟨0,0,0⟩,(t:Int))) (VX e env i) (Fj e i) (oJ e env i) (λt ht _=>?_) (λ_=>?_) l5
 .obtain⟨c,-⟩:=Mx h hi ht;have a:(oJ e env i).length=Fj e i:=by simp[oJ]
  unfold jb;dsimp only;rw[J,sz ht,a!,b _ c,a!];unfold VX;by_cases hc:(iM e env (lz e i t)).2=0
  .rw[p5 (v!.2 hc),p5 (v!.2 hc)];rw[wa o0,a!,WD o0,a!,pa U];unfold UD;dsimp only;congr 3;rw[Fac _ _ o0,show t-((oJ e env i).take t).length=0 by grind,show Fj e i-t=(Fj e i-(t+1))+1 by omega,Ψ,Xab]
   grind[oJ,dA]
  .rw[J hc,J hc];rfl
 .unfold jb;dsimp only;rw[p5,vac];have a:(oJ e env i).length=Fj e i:=by simp[oJ]
  grind
theorem bf7(h:X? e) (hA:∀i,i<e.length->¬((pd e i).Op=23\/(pd e i).Op=24\/(pd e i).Op=26)->DA (og (pd e i) (oJ e env i) env)):∀i,i<e.length->Z? e env i:=by
 intro i
 induction i using Xac with
 |_ i k=>
  intro hi;have hle:=h.le;have har:=h.ar hi;have hga:=OG e i;have f:=uI e i;by_cases b:(pd e i).Op=23\/(pd e i).Op=24\/(pd e i).Op=26
  .have hk:2<=Fj e i/\((pd e i).Op=26->Fj e i=3):=by
    unfold Fj;rcases b with h|h|h<;>rw[h]<;>decide
   have r:=(Mx h hi (j:=0) U).1;have x:=(Mx h hi (j:=1) U).1;have s:=k _ r U;have l:=k _ x U;have u:c! (dL e i) 0=M ((lz e i 0:Nat):Int):=sz (t:=0) U;have w:c! (dL e i) 1=M ((lz e i 1:Nat):Int):=sz (t:=1) U;have d:(pd e i).Op=26->Z? e env (lz e i 2)/\lz e i 2<i/\c! (dL e i) 2=M ((lz e i 2:Nat):Int):=λa=>by
    grind[Mx,sz]
   have hq:evQ e env i=_:=J b;refine ZV (λn hn=>?_) (by
    rw[hq];exact GV l.ok (by
     split
     .rename_i a;exact(d a).1.ok
     omega))
   rw[hq];obtain⟨n,rfl⟩:∃m,n=m+3:=⟨n-3,U⟩;show eb (ba (n+2)).1 (ba (n+2)).2.1 (ba (n+2)).2.2 _ _=_;unfold eb;dsimp only;rw[wa hi,a!,Hn hi,Bu h hi,a!,D3,s6 b,J rfl,oj];show Bd (ba (n+1)).1 (ba (n+1)).2.1 (ba (n+1)).2.2 _ _ _=_;unfold Bd VK;by_cases c:(pd e i).N=0
   case neg=>grind
   rw[p5 (v!.2 c),p5 (v!.2 c),u,a!];have g:∀j,j<i->Z? e env j->(ba (n+1)).2.2 ⟨e,(Ki e e.length).1,env⟩ (j:Int)=M (Wt (iM e env j)):=λj hj hb=>(show cc (ba n).1 (ba n).2.1 (ba n).2.2 _ _=_ from au5 (hb.p n U));rw[g _ r s,a!];by_cases hc:(Wt (iM e env (lz e i 0))).2=0
   case neg=>grind
   rw[p5 (v!.2 hc),p5 (v!.2 hc)];by_cases a:(pd e i).Op=26
   .obtain⟨c1,c2,c3⟩:=d a;rw[J a,J a,a!,J a,J a];by_cases o:(Wt (iM e env (lz e i 0))).1.N=1
    .rw[J o0,J o,w,a!,oj];exact l.p (n+1) U
    .rw[p5 o0,p5 o,c3,a!,oj];exact c1.p (n+1) U
   grind
  .obtain⟨q,q1,q3⟩:=hA i hi b;have hff:∀v,ff (VX e env i) (Fj e i)=M v->v.2≠0:=by
    grind[VX,Oa]
   have hq:evQ e env i=(match ff (VX e env i) (Fj e i)with|some v=>v|none=>q):=by
    grind[evQ]
   refine ZV (λn hn=>?_) ?_
   .rw[hq];obtain⟨n,rfl⟩:∃m,n=m+1:=⟨n-1,U⟩;show eb (ba n).1 (ba n).2.1 (ba n).2.2 _ _=_;unfold eb;dsimp only;rw[wa hi,a!,Hn hi,Bu h hi,a!,D3,u4 b,p5 l5,f,DB U U,a!,aR1 h hi (λj hj=>(k j hj U).p n U),a!]
    grind[VJ,aZ]
   grind
theorem bu0(h:X? e) (hb:Z? e env (e.length-1)):Jl e env=M (iM e env (e.length-1))/\((iM e env (e.length-1)).2=0->Ga (iM e env (e.length-1)).1):=by
 have hf:1000000<=cg:=by grind[cg]
 have hp:=h.pos;have hle:=h.le;unfold Jl av;rw[Zs];simp only[a!];rw[sH h];have e1:aa b! ((e.length:Int)-1)=((e.length-1:Nat):Int):=by grind[g!]
 unfold rj;rw[e1];dsimp only;rw[p5 o4,hb.p _ U];exact⟨rfl,hb.ok⟩
def IG(t0 t1:List Int) (i:Nat):Option Int:=
 match t0[i]?,t1[i]? with
 |some p,M q=>if p < -1\/(i:Int)<=p then M 9 else if q<0\/9<q then M 3 else q6
 |_,_=>q6
def bJ(t0 t1:List Int):Int:=
 if¬(t0.length:Int)=(t1.length:Int)then 2 else if 8<(t0.length:Int)then 4 else
 match ff (IG t0 t1) t0.length with|some v=>v|none=>0
theorem fQ{a b:Prop} [Decidable a] [Decidable b] :(b? (α:=Bool) (if¬a then M (decide b)else M a35) k)=k (s5 (a\/b)):=by
 grind
theorem kG(t0 t1:List Int):Qm t0 t1=M (bJ t0 t1):=by
 unfold Qm bJ;by_cases hl:(t0.length:Int)=(t1.length:Int)
 case neg=>simp_all
 rw[p5 (v!.2 hl),p5 (v!.2 hl)];by_cases a:8<(t0.length:Int)
 .simp_all
 rw[p5 a,p5 a];have e1:ca (Gi t0 t1) 0=M (Ib () (ff (IG t0 t1) t0.length)):=
  xb (λi=>(i:Int)) _ t0.length () (λi hi _=>by
   unfold Gi IG;rw[J,wa hi,n! hi,n! (l:=t1) U];dsimp only;rw[a!,fQ,wa (l:=t1) U,a!,fQ,pa U]
   grind[UD]) (λ_=>by grind[Gi])
 rw[e1];cases ff (IG t0 t1) t0.length<;>rfl
theorem gK(t0 t1:List Int):ts t0 t1=M (bJ t0 t1):=by
 unfold ts bJ;by_cases hl:(t0.length:Int)=(t1.length:Int)
 case neg=>simp_all
 rw[p5 (v!.2 hl),p5 (v!.2 hl)];by_cases a:8<(t0.length:Int)
 .simp_all
 rw[p5 a,p5 a];have e2:ca (zm t0 t1) 0=M (Ib () (ff (IG t0 t1) t0.length)):=
  xb (λi=>(i:Int)) _ t0.length () (λi hi _=>by
   unfold zm IG;rw[J,wa hi,n! hi,n! (l:=t1) U];dsimp only;rw[a!,fQ,wa (l:=t1) U,a!,fQ,pa U]
   grind[UD]) (λ_=>by grind[zm])
 rw[e2];cases ff (IG t0 t1) t0.length<;>rfl
structure J? (t0 t1:List Int):Prop where
 len:t0.length=t1.length
 le:t0.length<=8
 par:∀i (h:i<t0.length),-1<=t0[i]/\t0[i]<(i:Int)
variable {t1 t0:List Int}
theorem NR(h:bJ t0 t1=0):J? t0 t1:=by
 unfold bJ at h;by_cases hl:(t0.length:Int)=(t1.length:Int)
 case neg=>omega
 rw[p5 (v!.2 hl)]at h;by_cases a:8<(t0.length:Int)
 .omega
 rw[p5 a]at h;refine⟨U,U,λi hi=>?_⟩;have hn:ff (IG t0 t1) t0.length=q6:=by
  grind[IG,Oa]
 grind[IG,Xa]
def O6(t0:List Int) (at_:Int):Nat->List Int
 |0=>[]
 |n+1=>if t0[n]?=M at_ then O6 t0 at_ n++[(n:Int)]else O6 t0 at_ n
def qG(t0:List Int) (at_:Int):List Int:=O6 t0 at_ t0.length
theorem LH(t0:List Int) (a:Int):∀n,(O6 t0 a n).length<=n
 |0=>by simp[O6]
 |n+1=>by
  have:=LH t0 a n
  grind[O6]
theorem MH{t0:List Int}{a x:Int}:∀{n:Nat},x∈O6 t0 a n->∃k:Nat,x=(k:Int)/\k<n/\t0[k]?=M a
 |0,h=>by grind[O6]
 |n+1,h=>by
  unfold O6 at h;split at h
  .rename_i hn;rcases Β.1 h with h|h
   .obtain⟨k,a1,a2,a3⟩:=MH h;grind
   grind
  .obtain⟨k,a1,a2,a3⟩:=MH h;grind
theorem jG(hl:t0.length<=1048576) (a:Int):Pm t0 a=M (qG t0 a):=by
 have step:ca (Fi t0 a) (([]:List Int),0)=M (.inl (qG t0 a)):=by
  refine Uc (λi=>(O6 t0 a i,(i:Int))) t0.length _ (λi hi=>?_) ?_ rfl
  .have h1:=LH t0 a i;unfold Fi;dsimp only;rw[J,wa hi,a!,pa U];simp only[O6,n! hi,T!];by_cases hc:t0[i]=a
   .rw[J hc,J hc,me o0];rfl
   simp_all
  grind[Fi,qG]
 grind[Pm]
theorem fK(hl:t0.length<=1048576) (a:Int):js t0 a=M (qG t0 a):=by
 have step:ca (ym t0 a) (([]:List Int),0)=M (.inl (qG t0 a)):=by
  refine Uc (λi=>(O6 t0 a i,(i:Int))) t0.length _ (λi hi=>?_) ?_ rfl
  .have h1:=LH t0 a i;unfold ym;dsimp only;rw[J,wa hi,a!,pa U];simp only[O6,n! hi,T!];by_cases hc:t0[i]=a
   .rw[J hc,J hc,me o0];rfl
   simp_all
  grind[ym,qG]
 grind[js]
def pri(t1:List Int) (x:Int):Int:=(t1[x.toNat]?).getD 0
def kE(t1:List Int) (out:Int->Int) (acc:List Int) (x:Int):List Int:=
 if out x = -1 then acc else
 match acc with
 |[]=>[x]
 |y::l=>if pri t1 y<pri t1 x then [x]else if pri t1 x=pri t1 y then y::l++[x]else y::l
def Qz(t1:List Int) (out:Int->Int) (l:List Int):List Int:=l.foldl (kE t1 out) []
theorem PB:∀x∈Qz t1 out l,x∈l:=by
 have:∀(l acc:List Int),∀x∈l.foldl (kE t1 out) acc,x∈acc\/x∈l:=by
  intro l
  induction l with
  |nil=>simp
  |cons y l a=>
   intro acc x hx;rcases a _ x hx with h|h
   .unfold kE at h
    grind
   simp_all
 intro x hx;rcases this l [] x hx with h|h
 all_goals simp_all
theorem E6(t1:List Int) (out:Int->Int) (l:List Int):(Qz t1 out l).length<=l.length:=by
 have:∀(l acc:List Int),(l.foldl (kE t1 out) acc).length<=acc.length+l.length:=by
  intro l
  induction l with
  |nil=>simp
  |cons y l a=>
   intro acc;refine P' (a _) ?_;have:(kE t1 out acc y).length<=acc.length+1:=by
    unfold kE
    grind
   grind
 have h:=this l [];rw[L!,Y?]at h;exact h
theorem YX:Qz t1 out (l++[x])=kE t1 out (Qz t1 out l) x:=by simp[Qz]
theorem uU{o a:Int->Int}(h:∀x∈l,o x=a x):Qz t1 o l=Qz t1 a l:=by
 have:∀(l acc:List Int),(∀x∈l,o x=a x)->l.foldl (kE t1 o) acc=l.foldl (kE t1 a) acc:=by
  intro l
  induction l with
  |nil=>simp
  |cons y l ih=>
   simp_all[kE]
 exact this l [] h
theorem GQ(hl:l.length<=100) (hm:∀x∈l,0<=x/\x<(t1.length:Int)) {g:Int->Option Int}(C:∀x∈l,g x=M (out x)) {mt:List Int->Option (List Int)}(j:∀q,mt q=M [])
 (D:∀a b,step (a,b)=if b<(l.length:Int)then
  b? (α:=(List Int)) (
   (c! l b).bind λh=>(g h).bind λE=>if E=(-1)then M a else
   b? (α:=(List Int)) (b? (α:=Bool) (if 0<(a.length:Int)then(c! t1 h).bind λF=>(c! a 0).bind λp=>(c! t1 p).bind λs=>M (s5 (s<F))else M a36) λm=>if m=a35 then mt a else M a) λc=>
   b? (α:=Bool) (if¬(c.length:Int)=0 then(c! t1 h).bind λt=>(c! c 0).bind λu=>(c! t1 u).bind λv=>M (t==v)else M a35) λn=>
   if n=a35 then(app 8 c ([h])).bind λw=>M w else M c) λo=>M (i! (o,(aa b! (b+1))))
  else M (i? a)):ca step (([]:List Int),0)=M (.inl (Qz t1 out l)):=by
 refine Uc (λi=>(Qz t1 out (l.take i),(i:Int))) l.length _ (λi hi=>?_) ?_ rfl
 .have B:=E6 t1 out (l.take i);have h2:(l.take i).length<=l.length:=o0
  have d:∀y∈Qz t1 out (l.take i),0<=y/\y<(t1.length:Int):=λy z=>hm y (Mab (PB y z));rw[D,J,wa hi,a!,C _ (y! hi),a!,pa U,O',n! hi];have hx:=hm _ (y! hi);simp only[Option.toList_some,YX];generalize l[i]=x at hx⊢;have k:c! t1 x=M (pri t1 x):=by grind[pri,Nh]
  generalize Qz t1 out (l.take i)=acc at B d⊢;unfold kE;by_cases ho:out x = -1
  .simp_all
  rw[p5 ho,p5 ho];rcases acc with _|⟨y,r⟩
  .simp_all[me]
  .have z:=d y l5;have f:c! t1 y=M (pri t1 y):=by grind[pri,Nh]
   have A:∀(q:List Int),c! (y::q) 0=M y:=λq=>by simp[c!]
   dsimp only;rw[J l5,k,A,a!,a!,f,a!,a!];by_cases e:pri t1 y<pri t1 x
   .rw[J l4,j,a!,p5 l5,a!,J rfl,me l5,J e];rfl
   .rw[p5 l4,a!,J o0,a!,A,a!,f,a!,a!,p5 e];by_cases he:pri t1 x=pri t1 y
    .rw[J l4,J he,me o0];rfl
    simp_all
 simp_all
def XT(t1:List Int) (out:Int->Int) (l:List Int):Int:=
 match Qz t1 out l with
 |[]=>-1
 |[x]=>out x
 |_=>-2
theorem P8{o a:Int->Int}(h:∀x∈l,o x=a x):XT t1 o l=XT t1 a l:=by
 grind[XT,uU,PB]
def oc(t0 t1:List Int) (t2:List Bool):Nat->Int->Int
 |0,_=>-1
 |k+1,i=>if XT t1 (oc t0 t1 t2 k) (qG t0 i) = -1/\(t2[i.toNat]?).getD a36=a35 then i else XT t1 (oc t0 t1 t2 k) (qG t0 i)
theorem QM(h:J? t0 t1) {i:Int}(hx:x∈qG t0 i):i<x/\0<=x/\x<(t0.length:Int):=by
 obtain⟨k,rfl,hk,hp⟩:=MH hx;have:=h.par k hk
 simp_all
theorem N8(h:J? t0 t1):∀(d:Nat) (i:Int),0<=i->(t0.length:Int)-i<=d->∀k a:Nat,(t0.length:Int)-i<=k->(t0.length:Int)-i<=a->i<t0.length->oc t0 t1 t2 k i=oc t0 t1 t2 a i:=by
 intro d
 induction d with
 |zero=>omega
 |succ d ih=>
  intro i h0 hd k a hk hk' hi;obtain⟨k,rfl⟩:∃m,k=m+1:=⟨k-1,U⟩;obtain⟨a,rfl⟩:∃m,a=m+1:=⟨a-1,U⟩;have:XT t1 (oc t0 t1 t2 k) (qG t0 i)=XT t1 (oc t0 t1 t2 a) (qG t0 i):=P8 λx hx=>by
   have:=QM h hx
   grind
  grind[oc]
def O(t0 t1:List Int) (t2:List Bool) (i:Int):Int:=oc t0 t1 t2 t0.length i
theorem cq6(h:J? t0 t1) {i:Int}(a:0<=i) (b:i<t0.length):O t0 t1 t2 i=if XT t1 (O t0 t1 t2) (qG t0 i) = -1/\(t2[i.toNat]?).getD a36=a35 then i else XT t1 (O t0 t1 t2) (qG t0 i):=by
 unfold O;rw[N8 h t0.length i a U t0.length (t0.length+1) U U b];rfl
def BT(t0 t1:List Int) (t2:List Bool):Int:=if bJ t0 t1=0/\t2.length=t0.length then XT t1 (O t0 t1 t2) (qG t0 (-1))else -1
theorem rI{out:List Int}(h:J? t0 t1) {f:Int->Int}{i:Int}(ho:∀x∈qG t0 i,c! out x=M (f x)):jc ⟨t0,t1,out⟩ i=M (XT t1 f (qG t0 i)):=by
 have hle:=h.le;have hlen:=h.len;have hcl:=LH t0 i t0.length;unfold jc Gp;dsimp only;rw[jG U i,a!];have hb:=GQ (t1:=t1) (out:=f) (l:=qG t0 i) (by grind[qG]) (λx hx=>by have:=QM h hx;omega) (step:=El ⟨t0,t1,out⟩ (qG t0 i)) (g:=λx=>c! out x) ho (mt:=λq=>(Fw q 0).bind λc=>M c) (λq=>by rw[show(0:Int)=((0:Nat):Int)from rfl,mB U];rfl) (λa b=>by grind[El]);rw[hb];simp only[a!];unfold XT;have d:=PB (t1:=t1) (out:=f) (l:=qG t0 i);generalize Qz t1 f (qG t0 i)=r at d⊢;rcases r with _|⟨x,_|⟨y,q⟩⟩
 all_goals grind[c!]
theorem cZ(h:J? t0 t1) (h2:t2.length=t0.length):Rm t0 t1 t2=M ((o? t0.length).map λ(k:Nat)=>O t0 t1 t2 (k:Int)):=by
 have hle:=h.le;unfold Rm;rw[DB U U,a!,g! U U];have hl:ca (Ii t0 t1 t2) (l! t0.length 0,(t0.length:Int)-1)=M (.inl ((o? t0.length).map λ(k:Nat)=>O t0 t1 t2 (k:Int))):=by
  refine Uc (λt=>((o? t0.length).map (λ(k:Nat)=>if k<t0.length-t then 0 else O t0 t1 t2 (k:Int)),(t0.length:Int)-1-t)) t0.length _ (λt ht=>?_) ?_ ?_
  .obtain⟨j,hj⟩:∃j,t0.length=t+j+1:=⟨t0.length-t-1,U⟩;have f:(t0.length:Int)-1-t=(j:Int):=U
   have b:t0.length-t=j+1:=U
   have c:t0.length-(t+1)=j:=U
   skip
   rw[f,b,c];unfold Ii;dsimp only;rw[J];have d:jc ⟨t0,t1,(o? t0.length).map (λ(k:Nat)=>if k<j+1 then 0 else O t0 t1 t2 (k:Int))⟩ (j:Int)=M (XT t1 (O t0 t1 t2) (qG t0 (j:Int))):=by
    refine rI h λx hx=>?_;have:=QM h hx;obtain⟨k,rfl⟩:=W! this.2.1;rw[wa o0]
    grind
   rw[d,a!,wa o0,a!,WD o0,a!];rw[wa o0];simp only[List.getElem_set_self,a!];have e:=cq6 (t2:=t2) h (i:=(j:Int)) U U;rw[Rab,n! U]at e;simp only[Option.getD_some]at e;have a:∀v,v=O t0 t1 t2 (j:Int)->((o? t0.length).map (λ(k:Nat)=>if k<j+1 then 0 else O t0 t1 t2 (k:Int))).set j v=(o? t0.length).map (λ(k:Nat)=>if k<j then 0 else O t0 t1 t2 (k:Int)):=by
    intro v hv;apply Qab
    all_goals grind
   have hw:aa b! ((j:Int)-1)=(t0.length:Int)-1-((t+1:Nat):Int):=by grind[g!]
   by_cases hm:XT t1 (O t0 t1 t2) (qG t0 (j:Int)) = -1
   .rw[J hm,wa (l:=t2) U,a!,a!];by_cases ha:t2[j]' U=a35
    .rw[J ha,WD o0,a!,a!,List.set_set,a _ l4,hw]
    simp_all
   simp_all
  .grind[Ii]
  ·((try dsimp only))
   rw[Nat.sub_zero];congr 1
   .apply Qab
    all_goals simp_all
   .simp
 simp_all
theorem Cw(t0 t1:List Int) (t2:List Bool):xq t0 t1 t2=M (BT t0 t1 t2):=by
 unfold xq BT;rw[kG t0 t1,a!];by_cases hv:bJ t0 t1=0
 case neg=>simp_all
 rw[J hv,a!];by_cases h2:t2.length=t0.length
 case neg=>grind
 have h:=NR hv;rw[p5 l4,J ⟨hv,h2⟩,cZ h h2,a!,rI h (f:=O t0 t1 t2) λx hx=>by
  have:=QM h hx;obtain⟨k,rfl⟩:=W! this.2.1
  grind[wa]]
 rfl
theorem bx2(h:J? t0 t1) {n:Nat}{i:Int}(ho:∀x∈qG t0 i,(ja n).2.2 t0 t1 t2 x=M (O t0 t1 t2 x)):(ja (n+1)).2.1 t0 t1 t2 i=M (Qz t1 (O t0 t1 t2) (qG t0 i)):=by
 have hle:=h.le;have hlen:=h.len;have hcl:=LH t0 i t0.length;show mw (ja n).1 (ja n).2.1 (ja n).2.2 _ _ _ _=_;unfold mw;rw[fK U i,a!];have hb:=GQ (t1:=t1) (out:=O t0 t1 t2) (l:=qG t0 i) (by grind[qG]) (λx hx=>by have:=QM h hx;omega) (step:=Rx t0 t1 t2 (qG t0 i) (ja n).2.2) (g:=λx=>(ja n).2.2 t0 t1 t2 x) ho (mt:=λq=>M []) (λq=>rfl) (λa b=>by grind[Rx])
 simp_all
theorem aU1(h:J? t0 t1) {n:Nat}{i:Int}(ho:∀x∈qG t0 i,∀m,n<=m->(ja m).2.2 t0 t1 t2 x=M (O t0 t1 t2 x)):(ja (n+2)).1 t0 t1 t2 i=M (XT t1 (O t0 t1 t2) (qG t0 i)):=by
 show xo (ja (n+1)).1 (ja (n+1)).2.1 (ja (n+1)).2.2 _ _ _ _=_;unfold xo;rw[bx2 h λx hx=>ho x hx n (x? _),a!];unfold XT;have a:=PB (t1:=t1) (out:=O t0 t1 t2) (l:=qG t0 i);generalize Qz t1 (O t0 t1 t2) (qG t0 i)=r at a⊢;rcases r with _|⟨x,_|⟨y,q⟩⟩
 all_goals grind[c!]
theorem bd0(h:J? t0 t1) (h2:t2.length=t0.length):∀(d:Nat) (i:Int),0<=i->i<t0.length->(t0.length:Int)-i<=d->∀n,3*d<=n->(ja n).2.2 t0 t1 t2 i=M (O t0 t1 t2 i):=by
 intro d
 induction d with
 |zero=>omega
 |succ d ih=>
  intro i a b hd n hn;obtain⟨n,rfl⟩:∃m,n=m+3:=⟨n-3,U⟩;show kq (ja (n+2)).1 (ja (n+2)).2.1 (ja (n+2)).2.2 _ _ _ _=_;unfold kq;rw[aU1 h λx hx m hm=>by
   have:=QM h hx
   grind]
  rw[a!,cq6 h a b];obtain⟨j,rfl⟩:=W! a;rw[wa U,Rab,n! U]
  grind
theorem GO(t0 t1:List Int) (t2:List Bool):jw t0 t1 t2=M (BT t0 t1 t2):=by
 have hf:1000000<=cg:=by grind[cg]
 unfold jw BT;rw[gK t0 t1,a!];by_cases hv:bJ t0 t1=0
 case neg=>simp_all
 rw[J hv,a!];by_cases h2:t2.length=t0.length
 case neg=>grind
 have h:=NR hv;rw[p5 l4,J ⟨hv,h2⟩];unfold nw;obtain⟨n,hn⟩:∃n,cg=n+2:=⟨cg-2,U⟩;rw[hn,aU1 h λx hx m hm=>by
  have:=QM h hx;have:=h.le;exact bd0 h h2 t0.length x U U U m U]
 rfl
section
variable {rules:List ke} {q:ke->Bool}
def tL(rules:List ke) (q:ke->Bool) (j:Nat):Int:=
 match rules[j]? with
 |none=>-1
 |some r=>if 0<=r.al/\r.al<(j:Int)then((Ef rules q j).2.2[r.al.toNat]?).getD 0 else -1
def nv(rules:List ke) (q:ke->Bool) (j:Nat):Int:=
 match rules[j]? with
 |none=>0
 |some r=>if q r=a35 then((Ef rules q j).1.length:Int)else tL rules q j
theorem EC(hi:i<rules.length):Ef rules q (i+1)=if q rules[i]=a35 then((Ef rules q i).1++[(i:Int)],(Ef rules q i).2.1++[tL rules q i],((Ef rules q i).2.2.set i (tL rules q i)).set i ((Ef rules q i).1.length:Int))else((Ef rules q i).1,(Ef rules q i).2.1,(Ef rules q i).2.2.set i (tL rules q i)):=by
 grind[Ef,tL]
theorem cL:∀i,i<=rules.length->∀j,j<i->(Ef rules q i).2.2[j]?=M (nv rules q j)
 |0,_,j,h=>U
 |i+1,hi,j,hj=>by
  have hl:=(Bw (rules:=rules) (q:=q) i).1;have ih:=cL i U
  grind[nv,EC]
theorem bs1(hj:j<rules.length):tL rules q j=if 0<=rules[j].al/\rules[j].al<(j:Int)then nv rules q rules[j].al.toNat else -1:=by
 grind[tL,cL]
theorem n5:∀i,i<=rules.length->∀j (hj:j<i) (h:j<rules.length),q rules[j]=a35->(Ef rules q i).1[(Ef rules q j).1.length]?=M (j:Int)
 |0,_,j,hj,_,_=>U
 |i+1,hi,j,hj,h,hq=>by
  rw[EC U];rcases Ζ j i with a|hge
  .have ih:=n5 i U j a h hq
   grind
  grind
theorem II:∀i,i<=rules.length->∀x∈(Ef rules q i).1,∃(j:Nat) (h:j<rules.length),x=(j:Int)/\j<i/\q rules[j]=a35
 |0,_,x,hx=>by grind[Ef]
 |i+1,hi,x,hx=>by
  rw[EC U]at hx;split at hx
  .rename_i hq;rcases Β.1 hx with h|h
   .obtain⟨j,a,b,c,d⟩:=II i U x h;grind
   grind
  .obtain⟨j,a,b,c,d⟩:=II i U x hx;grind
theorem Y4:∀i,i<=rules.length->(Ef rules q i).1.Pairwise (·<·)
 |0,_=>by simp[Ef]
 |i+1,hi=>by
  have d:=Y4 i U;rw[EC U];split
  .rw[List.pairwise_append];refine⟨d,l5,λa ha b hb=>?_⟩;obtain⟨j,_,rfl,c,_⟩:=II i U a ha
   simp_all
  omega
theorem Z4:∀i,i<=rules.length->(Ef rules q i).2.1=(Ef rules q i).1.map λx=>tL rules q x.toNat
 |0,_=>by simp[Ef]
 |i+1,hi=>by
  have ih:=Z4 i U
  grind[EC]
end
theorem aK3(hl:l.length<=1048576) (x:Int):(∀k:Nat,l[k]?=M x->l.Pairwise (·<·)->xv l x=M (k:Int))/\(x∉l->xv l x=M (-1)):=by
 have b:ca (As l x) 0=M (Ib () (ff (λi=>if l[i]?=M x then M (i:Int)else q6) l.length)):=
  xb (λi=>(i:Int)) _ l.length () (λi hi _=>by
   unfold As;rw[J,wa hi,n! hi,a!,pa U]
   grind[UD]) (λ_=>by grind[As])
 unfold xv;rw[b];constructor
 .intro k hk hp;have a:=(List.getElem?_eq_some_iff.1 hk).1;have:ff (λi=>if l[i]?=M x then M (i:Int)else q6) l.length=M (k:Int):=by
   refine Oa.2 ⟨k,a,l4,λj hj=>?_⟩;rw[if_neg]
   grind[Dab]
  rw[this];rfl
 .intro hx;have:ff (λi=>if l[i]?=M x then M (i:Int)else q6) l.length=q6:=by
   refine Xa.2 λi hi=>?_
   grind
  rw[this];rfl
theorem dW(hs:s.f.length<=1048576) {q:ke->Bool}:∀(j:Nat) (hj:j<s.f.length),∃y,ca (Kl s (Ef s.f q s.f.length).1) ((j:Int),s.f[j].al)=M y/\(match y with|.inr v=>v|.inl _=>-1)=tL s.f q j:=by
 intro j
 induction j using Xac with
 |_ j d=>
  intro hj;have hrl:=(Bw (rules:=s.f) (q:=q) s.f.length).2.1;rw[bs1 hj];generalize hP:s.f[j].al=P;by_cases hc:0<=P/\P<(j:Int)
  .rw[J hc];obtain⟨p,rfl⟩:=W! hc.1;have c:p<j:=U
   have a:=aK3 (l:=(Ef s.f q s.f.length).1) U (p:Int);rw[Rab];unfold nv;rw[n! (show p<s.f.length by omega)];dsimp only;by_cases hq:q (s.f[p]' U)=a35
   .rw[J hq];have b:=n5 s.f.length (x? _) p U U hq;have hi:=a.1 _ b (Y4 s.f.length (x? _));refine⟨.inr ((Ef s.f q p).1.length:Int),ct ?_,rfl⟩
    simp_all[Kl]
   .rw[p5 hq];have hi:=a.2 (λhm=>by
     obtain⟨k,hk,h1,h2,h3⟩:=II s.f.length (x? _) _ hm
     grind)
    obtain⟨y,y1,e⟩:=d p c U;refine⟨y,?_,e⟩;rw[Ie (s':=((p:Int),(s.f[p]' U).al))]
    .omega
    .unfold Kl;dsimp only;rw[J hc.1,a!,J l4,hi,a!,p5,wa U,a!]
  .rw[p5 hc];refine⟨.inl (),Ob ?_,rfl⟩
   grind[Kl]
theorem LO(a:s.f.length<=1048576) {q:ke->Bool}(hj:j<s.f.length):pw s (Ef s.f q s.f.length).1 (j:Int)=M (tL s.f q j):=by
 obtain⟨y,y1,y2⟩:=dW a (q:=q) j hj
 grind[pw,wa]
def lD(s:ek) (x:Int):Int:=((s.f[x.toNat]?).map (·.ax)).getD 0
def tP(s:ek) (d date:Int):List Int×List Int×List Int:=
 ((Ef s.f (CH d date) s.f.length).1,(Ef s.f (CH d date) s.f.length).2.1,(Ef s.f (CH d date) s.f.length).1.map (lD s))
theorem Lu(a:s.f.length<=1048576) (d date:Int):Qn s d date=M (tP s d date):=by
 unfold Qn tP;rw[TD a (q:=CH d date) (λr=>by
  grind[Fg,CH,Jf]),a!]
 have hl:=(Bw (rules:=s.f) (q:=CH d date) s.f.length).2.1;have hm:=HI (rules:=s.f) (q:=CH d date) s.f.length;generalize (Ef s.f (CH d date) s.f.length).2.1=pp;generalize (Ef s.f (CH d date) s.f.length).1=L at hl hm;have h1:ca (qj s (L,pp)) (([]:List Int),0)=M (.inl (L.map (lD s))):=by
  refine Uc (λi=>((L.take i).map (lD s),(i:Int))) L.length _ (λi hi=>?_) ?_ rfl
  .have hx:=hm _ (y! hi);have h2:(L.take i).length<=L.length:=o0
   unfold qj;dsimp only;rw[J,wa hi,a!,Nh hx.1 hx.2.1,a!,me o0,a!,pa U,O',n! hi]
   grind[lD]
  simp_all[qj]
 simp_all
theorem JO(b:s.f.length<=1048576) (d date:Int):ow s d date=M (tP s d date):=by
 unfold ow tP;rw[VL b,a!];have hl:=(Bw (rules:=s.f) (q:=CH d date) s.f.length).2.1;have hm:=II (rules:=s.f) (q:=CH d date) s.f.length (x? _);have a:=λ{j:Nat} (hj:j<s.f.length)=>LO b (q:=CH d date) hj;rw[Z4 s.f.length (x? _)];generalize (Ef s.f (CH d date) s.f.length).1=L at hl hm a;have h1:ca (mq s L) (([]:List Int),([]:List Int),0)=M (.inl (L.map (λx=>tL s.f (CH d date) x.toNat),L.map (lD s))):=by
  refine Uc (λi=>((L.take i).map (λx=>tL s.f (CH d date) x.toNat),(L.take i).map (lD s),(i:Int))) L.length _ (λi hi=>?_) ?_ rfl
  .obtain⟨j,hj,e,-⟩:=hm _ (y! hi);have h2:(L.take i).length<=L.length:=o0
   unfold mq;dsimp only;rw[J,wa hi,a!,e,a hj,a!,me o0,a!,wa hj,a!,me o0,a!,pa U,O',n! hi]
   simp_all[lD]
  simp_all[mq]
 simp_all
end
end Go.Proofs.Dev
