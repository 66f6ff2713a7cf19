/-
  The functions as plain partial functions, and plain lemmas about them: no condition.
-/
import Derived.Test.YtmhfebelfmgckaaGreatDoorPB
open Option renaming some->M,none->s5
open Decidable renaming decide->s6
open Go.Tm.Ex renaming go->i!,brk->i?
open Go.IntKind renaming i64->b!
open Bool renaming and_eq_true->E!,eq_false_iff->mac,false_eq_true->t!,not_true->Φ,true_and->Ο,true_eq_false->P!,true->a38,false->a39
open Classical renaming not_not->v!
open Decidable renaming not_not->Xab
open Int renaming add_mul_ediv_left->gad,add_mul_emod_self_left->Nac,ediv_eq_zero_of_lt->aad,ediv_lt_of_lt_mul->pae,ediv_nonneg->Xae,emod_eq_of_lt->Bad,emod_lt_of_pos->cad,emod_nonneg->had,eq_ofNat_of_zero_le->V',le_of_lt->laf,mul_ediv_add_emod->Pac,mul_le_mul_of_nonneg_left->Had,mul_tdiv_add_tmod->qae,natAbs_mul->Xad,natCast_ediv->Uae,natCast_mul->Mad,natCast_one->Nad,natCast_zero->Iad,reduceBEq->F!,reduceEq->u!,reduceLE->Ψ,tdiv->s?,tdiv_eq_ediv_of_nonneg->nad,tmod->v?,tmod_lt_of_pos->Uad,toNat_natCast->cac
open List renaming all_eq_true->R',append_assoc->P',drop_eq_getElem_cons->lab,ext_getElem->bac,filter_append->δ,filter_eq_nil_iff->Mac,getElem?_append_right->kac,getElem?_eq_getElem->n!,getElem_mem->y!,getElem_of_mem->H',length_append->Τ,length_cons->G!,length_filter_le->Ξ,length_nil->M!,length_replicate->Vab,length_singleton->yab,mem_append->Z?,mem_of_mem_take->Rab,nil_append->O!,pairwise_iff_getElem->Pab,range->p!,replicate->k?,replicate_succ->Υ,set_append_right->Qac,set_cons_zero->fac,take_add_one->N!
open Nat renaming add_sub_cancel->Lae,div_add_mod->aac,div_le_self->gac,div_lt_iff_lt_mul->wac,div_mul_le_self->uad,eq_zero_or_pos->Vad,le_refl->x?,le_trans->N?,lt_or_ge->Κ,mod_lt->Α,mul_le_mul->dac,mul_le_mul_right->Β,strongRecOn->lad,sub_self->Fac,zero_add->Y!
open Option renaming bind->b?,bind_some->a!
open Option.some renaming injEq->T'
set_option linter.all false
set_option maxRecDepth 10000
set_option maxHeartbeats 1000000
namespace Go.Proofs.Dev
noncomputable section
open Go Go.Tm
variable {a b v:bz}{α β:Type}{step:List Int×Int->Option (Ex (List Int×Int) (List Int) Unit)}{x0:List ia}{x y d mode N w op:Int}{q:List Int}{c:Prop}{j r z len:Nat}{s:ek}{o:Option Bool}{args:List bz}{out:Int->Int}{t2:List Bool}
def VR(r:ia):Bool:=s6 (0<=r.n)&&(s6 (r.To<=109573)&&s6 (r.n<r.To))
theorem CC(r:ia):eo r=M (VR r):=by
 grind[eo,pe,VR]
theorem uz(r:ia):Jd r=M (VR r):=by
 grind[Jd,pe,VR]
theorem WC(r:ia):Wk r=M (VR r):=by
 grind[Wk,Xf,VR]
theorem GK(r:ia):Zr r=M (VR r):=by
 grind[Zr,Xf,VR]
def t?:List ia->List Int
 |[]=>[]
 |r::l=>(if VR r=a38 then [r.n,r.To]else [])++t? l
theorem fO{a b:List ia}:t? (a++b)=t? a++t? b:=by
 induction a with
 |nil=>rfl
 |cons x l ih=>grind[t?]
theorem eu:∀l:List ia,(t? l).length<=2*l.length
 |[]=>by simp[t?]
 |r::l=>by
  have:=eu l
  grind[t?]
theorem Fb{l:List α}{i:Nat}(h:i<l.length):l.take (i+1)=l.take i++[l[i]]:=by
 simp
theorem Bz{n:Nat}{l:List α}(hn:n=l.length) {step:List β×Int->Option (Ex (List β×Int) (List β) Unit)}(g:List α->List β) (x0:List β)
 (a:∀i (h:i<l.length),step (x0++g (l.take i),(i:Int))=M (.go (x0++g (l.take (i+1)),((i+1:Nat):Int)))) (hend:∀x,step (x,(n:Int))=M (.brk x)) (h0:g []=[]):ca step (x0,0)=M (.inl (x0++g l)):=by
 subst hn;refine Nc (λi=>(x0++g (l.take i),(i:Int))) l.length _ (λi hi=>a i hi) ?_ o4
 simp_all
theorem cV{l:List ia}(hl:l.length<=1048576) (a:step=Lf l\/step=Ge l):ca step ([],0)=M (.inl (t? l)):=by
 have h:=Bz (step:=step) (l:=l) rfl t? [] (λi hi=>by
  have h1:=eu (l.take i);have h2:(l.take i).length<=l.length:=o4
  rw[Fb hi,fO];rcases a with rfl|rfl
  .unfold Lf;dsimp only;rw[J,va hi,a!,uz,a!,pa U]
   grind[t?,Od]
  .unfold Ge;dsimp only;rw[J,va hi,a!,uz,a!,pa U]
   grind[t?,Od]) (λx=>by
  rcases a with rfl|rfl
  all_goals grind[Lf,Ge]) rfl
 simp_all
theorem pX{l:List Int}(h:l.length<=4194304):((ab l).bind λx=>(Ma x).bind λy=>M y)=M (Yd l):=by
 unfold ab Ma;rw[J,a!,J a13,a!,JB]
theorem vD{l:List ia}(hl:l.length<=1048576):ui l=M (Yd (t? l)):=by
 have:=eu l;unfold ui;rw[cV hl (.inl rfl),a!]
 grind[pX]
theorem aq4{l:List ia}(hl:l.length<=1048576):Vh l=M (Yd (t? l)):=by
 have:=eu l;unfold Vh;rw[cV hl (.inr rfl),a!]
 grind[pX]
def Nj(x:Int):Bool:=s6 (1<=x)&&s6 (x<=109572)
def T?(t1:Int) (f:ka):Bool:=s6 (f.ah<=t1)&&VR f.ab
def cI(t1:Int) (l:List ka):List ia:=(l.filter (T? t1)).map (·.ab)
theorem SM(t1:Int) (l:List ka):(cI t1 l).length<=l.length:=by
 grind[cI]
theorem aK0{t1:Int}{a b:List ka}:cI t1 (a++b)=cI t1 a++cI t1 b:=by simp[cI]
theorem gx(l:List Int):(Yd l).length<=l.length:=(Of l).2.1
theorem xz{l:List ka}(t1:Int) (hl:l.length<=65536):Se l t1=M ((Yd (t? (cI t1 l))).filter Nj):=by
 unfold Se;have e1:=Bz (step:=Tf l t1) (l:=l) rfl (cI t1) [] (λi hi=>by
  have c:=SM t1 (l.take i);have h2:(l.take i).length<=l.length:=o4
  have a:cI t1 [l[i]]=if T? t1 l[i]=a38 then [l[i].ab]else []:=by
   grind[cI]
  rw[Fb hi,aK0,a];have ha:=Od (b:=16) (show((cI t1 (l.take i)).length + [l[i].ab].length)*16<=140737488355328 by grind);generalize cI t1 (l.take i)=w at *;unfold Tf;dsimp only;rw[J,va hi,a!,CC,pa U]
  grind[T?]) (λx=>by grind[Tf]) rfl
 rw[O!]at e1;have hk:=SM t1 l;have he:=eu (cI t1 l);have hd:=gx (t? (cI t1 l));rw[e1,a!];dsimp only;rw[vD U,a!];generalize Yd (t? (cI t1 l))=q at *;have e2:=Bz (step:=Sf q) (l:=q) rfl (λl=>l.filter Nj) [] (λi hi=>by
  have c:=Ξ Nj (q.take i);have h2:(q.take i).length<=q.length:=o4
  rw[Fb hi,δ];unfold Sf;dsimp only;rw[J,va hi,a!,pa U]
  grind[Nj,Od]) (λx=>by grind[Sf]) rfl
 simp_all
theorem pW{σ β ρ:Type}{step:σ->Option (Ex σ β ρ)}(I:Nat->σ->Prop) (n:Nat) (Q:β->Prop) (c:∀j s,j<n->I j s->∃s',step s=M (.go s')/\I (j+1) s') (a:∀s,I n s->∃b,step s=M (.brk b)/\Q b) :
 ∀(k j:Nat) (s:σ),j+k=n->I j s->∃b,ca step s=M (.inl b)/\Q b
 |0,j,s,h,hi=>by
  rw[Nat.add_zero]at h;grind[Qb]
 |k+1,j,s,h,hi=>by
  obtain⟨s',h1,h2⟩:=c j s U hi;obtain⟨b,h3,h4⟩:=pW I n Q c a k (j+1) s' U h2
  grind[Ke]
def oz(l:List po):List ia:=l.flatMap λt=>t.Rows.map (·.ab)
def mz(l:List ek):List ia:=l.flatMap λs=>s.f.map (·.ab)
theorem GA:∀{l:List po},(∀t∈l,t.Rows.length<=150)->(oz l).length<=150*l.length
 |[],_=>by simp[oz]
 |t::l,h=>by
  have h1:=GA (l:=l) λx hx=>h x o4
  grind[oz]
theorem BA:∀{l:List ek},(∀t∈l,t.f.length<=60)->(mz l).length<=60*l.length
 |[],_=>by simp[mz]
 |t::l,h=>by
  have h1:=BA (l:=l) λx hx=>h x o4
  grind[mz]
theorem uX{a b:List po}:oz (a++b)=oz a++oz b:=by simp[oz]
theorem mX{a b:List ek}:mz (a++b)=mz a++mz b:=by simp[mz]
theorem vX{t:po}:oz [t]=t.Rows.map (·.ab):=by simp[oz]
theorem nX{t:ek}:mz [t]=t.f.map (·.ab):=by simp[mz]
theorem w4{l:List α}(v:α->ia) (hx:x0.length+l.length<=1048576) {step:List ia×Int->Option (Ex (List ia×Int) (List ia) Unit)}
 (hgo:∀i (h:i<l.length) x,step (x,(i:Int))=(app 16 x [v l[i]]).bind λy=>M (.go (y,aa b! ((i:Int)+1)))) (a:∀x,step (x,(l.length:Int))=M (.brk x)):ca step (x0,0)=M (.inl (x0++l.map v)):=by
 refine Bz (step:=step) (l:=l) rfl (λl=>l.map v) x0 (λi hi=>?_) a rfl
 grind[Od,pa,Fb]
structure E' (l:cb):Prop where
 nt:l.Tables.length<=9
 ns:l.e.length<=5
 t:∀t∈l.Tables,t.Rows.length<=150
 s:∀s∈l.e,s.f.length<=60
variable {l:List Int}
def EJ{l:List α}{i:Nat}{x:α}(h:x∈l.take i):x∈l:=Rab h
theorem n8{l:cb}(h:E' l):ca (Qc l) ([],0)=M (.inl (oz l.Tables)):=by
 have hnt:=h.nt;have:=Bz (step:=Qc l) (l:=l.Tables) rfl oz [] (λi hi=>by
  have h1:=GA (l:=l.Tables.take i) λx hx=>h.t x (EJ hx);have h2:(l.Tables.take i).length<=l.Tables.length:=o4
  have h3:=h.t l.Tables[i] o0;unfold Qc;dsimp only;rw[J,va hi,a!,O!,w4 (l:=l.Tables[i].Rows) (·.ab) U (λk hk x=>by simp_all[Yh,va]) (λx=>by grind[Yh]),a!,pa U,Fb hi,uX,vX];rfl) (λx=>by grind[Qc]) rfl
 simp_all
theorem l8{l:cb}(h:E' l) (hx:x0.length<=10000):ca (Pc l) (x0,0)=M (.inl (x0++mz l.e)):=by
 have hns:=h.ns;refine Bz (step:=Pc l) (l:=l.e) rfl mz x0 (λi hi=>?_) (λx=>by grind[Pc]) rfl;have h1:=BA (l:=l.e.take i) λx hx=>h.s x (EJ hx);have h2:(l.e.take i).length<=l.e.length:=o4
 have h3:=h.s l.e[i] o0;unfold Pc;dsimp only;rw[J,va hi,a!,w4 (l:=l.e[i].f) (·.ab) o4 (λk hk x=>by simp_all[ah,va]) (λx=>by grind[ah]),a!,pa U,Fb hi,mX,nX,P']
theorem TW{l:cb}(h:E' l):ca (nf l) ([],0)=M (.inl (oz l.Tables)):=by
 have hnt:=h.nt;have:=Bz (step:=nf l) (l:=l.Tables) rfl oz [] (λi hi=>by
  have h1:=GA (l:=l.Tables.take i) λx hx=>h.t x (EJ hx);have h2:(l.Tables.take i).length<=l.Tables.length:=o4
  have h3:=h.t l.Tables[i] o0;unfold nf;dsimp only;rw[J,O!,w4 (l:=l.Tables[i].Rows) (·.ab) U (λk hk x=>by simp_all[Gm,va]) (λx=>by grind[Gm,va]),a!,pa U,Fb hi,uX,vX];rfl) (λx=>by grind[nf]) rfl
 simp_all
theorem SW{l:cb}(h:E' l) (hx:x0.length<=10000):ca (mf l) (x0,0)=M (.inl (x0++mz l.e)):=by
 have hns:=h.ns;refine Bz (step:=mf l) (l:=l.e) rfl mz x0 (λi hi=>?_) (λx=>by grind[mf]) rfl;have h1:=BA (l:=l.e.take i) λx hx=>h.s x (EJ hx);have h2:(l.e.take i).length<=l.e.length:=o4
 have h3:=h.s l.e[i] o0;unfold mf;dsimp only;rw[J,w4 (l:=l.e[i].f) (·.ab) o4 (λk hk x=>by simp_all[Gl,va]) (λx=>by grind[Gl,va]),a!,pa U,Fb hi,mX,nX,P']
theorem GV(x:Int):qd x=M (!Nj x):=by
 grind[qd,Nj]
theorem V?(h:∀i (hi:i<l.length),Nj l[i]=a38):l.filter Nj=l:=by
 rw[List.filter_eq_self];intro x hx;obtain⟨i,hi,rfl⟩:=H' hx
 simp_all
theorem aq3(hq:q.length<=1048576):∃c,Xh q=M (c,q.filter Nj):=by
 unfold Xh nn;have p:=Gb (step:=He q) (x0:=0) (λi=>(i:Int)) (λi=>match q[i]? with|some x=>if Nj x=a38 then s5 else M (i:Int)|none=>s5) q.length () (λi hi _=>by
  unfold He;rw[J,va hi,a!,GV,a!,pa U]
  grind[mE]) (λ_=>by grind[He])
 rw[p]
 cases hf:ff (λi=>match q[i]? with|some x=>if Nj x=a38 then s5 else M (i:Int)|none=>s5) q.length with
 |none=>
  simp_all[Rb,db,V?]
 |some v=>
  obtain⟨k,r,l,k3⟩:=Qa.1 hf;rw[n! r]at l;have hb:Nj q[k]=a39:=l5
  simp[hb]at l;subst l;have hk:(q.take k).filter Nj=q.take k:=V? λi hi=>by
   grind
  simp only[Rb,a!];rw[p6,pa U];obtain⟨⟨c,n⟩,hl,hc⟩:=pW (step:=Ie) (λj s=>s.2.2=(j:Int)/\s.1.length=q.length/\s.2.1=(((q.take j).filter Nj).length:Int)/\s.1.take ((q.take j).filter Nj).length=(q.take j).filter Nj/\s.1.drop j=q.drop j) q.length
   (λb=>b.1.length=q.length/\b.2=((q.filter Nj).length:Int)/\b.1.take (q.filter Nj).length=q.filter Nj) (λj s hj ⟨f,m,g,h,a⟩=>by
    obtain⟨c,n,jj⟩:=s;dsimp only at f m g h a;subst f g;have hle:=Ξ Nj (q.take j);have hlt:(q.take j).length=j:=o4
    have d:c[j]' U=q[j]:=by
     have o:(c.drop j)[0]?=(q.drop j)[0]?:=by rw[a]
     grind
    have hd:c.drop (j+1)=q.drop (j+1):=by
     have:=congrArg (List.drop 1) a;simpa using this
    unfold Ie;dsimp only;rw[J,va (show j<c.length by omega),a!,GV,a!,d,pa (show j<4611686018427387904 by omega),Fb hj,δ];cases hb:Nj q[j]
    .simp_all
    .rw[J o0,va (show((q.take j).filter Nj).length<c.length by omega),a!,oE U,a!,pa U];refine⟨_,rfl,rfl,l5,o4,?_,?_⟩
     .simp only[hb,List.filter_cons,List.filter_nil,D1,Τ,G!,M!,Y!];rw[N!,List.take_set_of_le (x? _),h,List.getElem?_set_self U];rfl
     grind[List.drop_set_of_lt]) (λs ⟨f,m,g,h,a⟩=>by
    simp_all[Ie]) (q.length-(k+1)) (k+1) (q,(k:Int),((k+1:Nat):Int)) U (by
    have e:(q.take (k+1)).filter Nj=q.take k:=by
     grind[Fb]
    grind)
  dsimp only at hc;obtain⟨o,rfl,h3⟩:=hc
  simp_all[aQ3,Ξ,U5,CB]
theorem pv{l:cb}(h:E' l):lh l=M ((Yd (t? (oz l.Tables++mz l.e))).filter Nj):=by
 have hnt:=h.nt;have hns:=h.ns;have h1:=GA h.t;have h2:=BA h.s;have h3:=eu (oz l.Tables++mz l.e)
 grind[lh,gx,n8,l8,aq4,aq3]
def aF(y:Int):Bool:=s6 (y % 4=0)&&(!s6 (y % 100=0) || s6 (y % 400=0))
def Cn(y m:Int):Int:=if m=2 then(if aF y=a38 then 29 else 28)else if m=4\/m=6\/m=9\/m=11 then 30 else 31
def Dn(y:Int):Nat->Int
 |0=>0
 |n+1=>Dn y n+Cn y (n+1)
def Vd:Nat->Int
 |0=>0
 |n+1=>Vd n+(if aF (1900+n)=a38 then 366 else 365)
def HX{a b:Int}(h:0<=a):a.tmod b=a % b:=Int.tmod_eq_emod_of_nonneg h
def TP{a b:Int}(h:0<=a):a.tdiv b=a / b:=nad h
theorem vQ(h:0<=y):qy y=M (aF y):=by
 grind[qy,aF]
theorem pA(h:0<=y):Et y=M (aF y):=by
 grind[Et,aF]
theorem Xd{m:Int}(h:0<=y) (h1:1<=m) (h2:m<=12):xe y m=M (Cn y m):=by
 unfold xe Cn;rw[J,a!,p6 l5,vQ h];rw[f? U U];have:m=1\/m=2\/m=3\/m=4\/m=5\/m=6\/m=7\/m=8\/m=9\/m=10\/m=11\/m=12:=U
 rcases this with rfl|rfl|rfl|rfl|rfl|rfl|rfl|rfl|rfl|rfl|rfl|rfl<;>first|(cases aF y<;>simp[c!,mL])|simp[c!,mL]
theorem vc{m:Int}(h:0<=y) (h1:1<=m) (h2:m<=12):Kc y m=M (Cn y m):=by
 unfold Kc Cn;rw[pA h];have:m=1\/m=2\/m=3\/m=4\/m=5\/m=6\/m=7\/m=8\/m=9\/m=10\/m=11\/m=12:=U
 rcases this with rfl|rfl|rfl|rfl|rfl|rfl|rfl|rfl|rfl|rfl|rfl|rfl<;>first|(cases aF y<;>simp)|simp
theorem uf{m:Int}:28<=Cn y m/\Cn y m<=31:=by
 grind[Cn]
theorem Fl{y:Int}:∀n,0<=Dn y n/\Dn y n<=31*n
 |0=>by simp[Dn]
 |n+1=>by
  have:=Fl (y:=y) n;have:=uf (y:=y) (m:=n+1)
  grind[Dn]
theorem Dl:∀n,0<=Vd n/\Vd n<=366*n
 |0=>by simp[Vd]
 |n+1=>by
  have:=Dl n
  grind[Vd]
theorem eQ:∀n:Nat,Vd n=365*n+((1899+n:Int) / 4-(1899+n:Int) / 100+(1899+n:Int) / 400)-460
 |0=>by simp[Vd]
 |n+1=>by
  simp only[Vd,eQ n,aF]
  grind
theorem Un{n:Nat}(h:n<=1000):gk (1900+n)=M (Vd n):=by
 unfold gk Kr;simp only[a!];have e1:aa b! ((1900+(n:Int))-1)=1899+n:=by grind[f?]
 have e2:aa b! ((1900+(n:Int))-1900)=n:=by grind[f?]
 rw[e1,e2];rw[TP (a:=1899+(n:Int)) U,TP (a:=1899+(n:Int)) U,TP (a:=1899+(n:Int)) U]
 grind[eQ,f?]
def Ah(n m:Nat):Int:=Vd n+Dn (1900+n) m
theorem ON{n m:Nat}(hn:n<300) (hm:m<12):Yl (1900+n) (m+1) 1=M (Ah n m,0):=by
 unfold Yl;have hy:=Dl n;have hd:=uf (y:=1900+n) (m:=(m:Int)+1);rw[J,J,J,J,J,Xd U U U,a!,a!,p6 o4,Un U,a!];have e:ca (me (1900+n) (m+1)) (Vd n,0)=M (.inl (Ah n m)):=Nc (step:=me (1900+n) (m+1)) (λi=>(Vd n+Dn (1900+n) i,(i:Int))) m (Ah n m) (λi hi=>by
  unfold me;dsimp only;rw[f? (n:=(m:Int)+1-1) U U,J,pa U,Xd U U U,a!];have:=Fl (y:=1900+n) i;have:=uf (y:=1900+n) (m:=((i+1:Nat):Int))
  grind[Dn,f?]) (by
  unfold me;dsimp only;rw[f? (n:=(m:Int)+1-1) U U,p6];rfl) (by simp[Dn])
 rw[e];have:=Fl (y:=1900+n) m
 grind[Ah,f?]
theorem vM{n m:Nat}(hn:n<300) (hm:m<12):fg (1900+n) (m+1) 1=M (Ah n m,0):=by
 unfold fg;have hd:=uf (y:=1900+n) (m:=(m:Int)+1);rw[J,J,J,vc U U U,a!,a!,p6 o4];have e:ca (ud (1900+n)) (aa b! (1-1),1900)=M (.inl (Vd n)):=Nc (step:=ud (1900+n)) (λi=>(Vd i,1900+(i:Int))) n (Vd n) (λi hi=>by
  unfold ud Wf;dsimp only;have:=Dl i;rw[J,pA U,a!,f? (n:=1900+(i:Int)+1) U U];cases hb:aF (1900+(i:Int))
  .simp only[t!,u4,a!,Vd,hb]
   grind[f?]
  .simp only[D1,a!,Vd,hb]
   grind[f?]) (by
  simp_all[ud]) (by simp[Vd];decide)
 rw[e];have hy:=Dl n;have e2:ca (td (1900+n) (m+1)) (Vd n,1)=M (.inl (Ah n m)):=Nc (step:=td (1900+n) (m+1)) (λi=>(Vd n+Dn (1900+n) i,(i:Int)+1)) m (Ah n m) (λi hi=>by
  unfold td;dsimp only;rw[J,vc U U U,a!];have:=Fl (y:=1900+n) i;have:=uf (y:=1900+n) (m:=(i:Int)+1)
  grind[Dn,f?]) (by
  unfold td;dsimp only;rw[p6];rfl) (by simp[Dn])
 simp_all
def Wa(t:Int):ia×Int:=if 0<=t/\t<=3599 then(⟨Ah (t.toNat / 12) (t.toNat % 12),Ah (t.toNat / 12) (t.toNat % 12)+Cn (1900+(t.toNat / 12:Nat)) ((t.toNat % 12:Nat)+1)⟩,0)else(⟨0,0⟩,3)
theorem Hx{t:Int}(h:(Wa t).2=0):0<=(Wa t).1.n/\(Wa t).1.n<(Wa t).1.To/\(Wa t).1.To<=1000000:=by
 unfold Wa at h⊢;split
 .rename_i hc;have:=Dl (t.toNat / 12);have:=Fl (y:=1900+((t.toNat / 12:Nat):Int)) (t.toNat % 12);have:=uf (y:=1900+((t.toNat / 12:Nat):Int)) (m:=((t.toNat % 12:Nat):Int)+1)
  grind[Ah]
 simp_all
theorem jL{t:Int}(h1:0<=t) (h2:t<=3599):aa b! (1900+aa b! (t.tdiv 12))=1900+((t.toNat / 12:Nat):Int)/\aa b! (t.tmod 12+1)=((t.toNat % 12:Nat):Int)+1:=by
 grind[f?]
theorem MQ(t:Int):wv t=M (s6 (0<=t/\t<=3599)):=by
 grind[wv]
theorem ZG(t:Int):Bv t=M (s6 (0<=t/\t<=3599)):=by
 grind[Bv]
theorem UG(t:Int):uv t=M (Wa t):=by
 unfold uv FD Wa;rw[MQ,a!];by_cases h:0<=t/\t<=3599
 .obtain⟨e1,e2⟩:=jL h.1 h.2;have hn:t.toNat / 12<300:=U
  have hm:t.toNat % 12<12:=U
  have:=Dl (t.toNat / 12);have:=Fl (y:=1900+((t.toNat / 12:Nat):Int)) (t.toNat % 12);have:=uf (y:=1900+((t.toNat / 12:Nat):Int)) (m:=((t.toNat % 12:Nat):Int)+1);rw[p6 o4,e1,e2,ON hn hm,a!];simp only[p6 (show¬(s6 (0<=t/\t<=3599)=a39) by grind),a!,Xd (y:=1900+((t.toNat / 12:Nat):Int)) (m:=((t.toNat % 12:Nat):Int)+1) U U U,J h];rw[p6 o0,f? (by grind[Ah]) (by grind[Ah])]
 simp_all
theorem QQ(t:Int):Ly t=M (Wa t):=by
 unfold Ly Wu Wa;rw[ZG,a!];by_cases h:0<=t/\t<=3599
 .obtain⟨e1,e2⟩:=jL h.1 h.2;have hn:t.toNat / 12<300:=U
  have hm:t.toNat % 12<12:=U
  have:=Dl (t.toNat / 12);have:=Fl (y:=1900+((t.toNat / 12:Nat):Int)) (t.toNat % 12);have:=uf (y:=1900+((t.toNat / 12:Nat):Int)) (m:=((t.toNat % 12:Nat):Int)+1);rw[p6 o4,e1,e2,vM hn hm,a!];simp only[p6 (show¬(s6 (0<=t/\t<=3599)=a39) by grind),a!,vc (y:=1900+((t.toNat / 12:Nat):Int)) (m:=((t.toNat % 12:Nat):Int)+1) U U U,J h]
  grind[Ah,f?]
 simp_all
theorem ES:Vd 300=109573:=by grind[eQ]
theorem cm7(y:Int):Cn y 1=31/\Cn y 3=31/\Cn y 4=30/\Cn y 5=31/\Cn y 6=30/\Cn y 7=31/\Cn y 8=31/\Cn y 9=30/\Cn y 10=31/\Cn y 11=30/\Cn y 12=31:=by
 simp[Cn]
theorem J4(y:Int):Dn y 12=if aF y=a38 then 366 else 365:=by
 obtain⟨h1,h3,h4,h5,h6,h7,h8,h9,h10,h11,h12⟩:=cm7 y;have e:Dn y 12=0+Cn y 1+Cn y 2+Cn y 3+Cn y 4+Cn y 5+Cn y 6+Cn y 7+Cn y 8+Cn y 9+Cn y 10+Cn y 11+Cn y 12:=rfl
 grind[Cn]
theorem LA(n:Nat):Vd (n+1)=Vd n+Dn (1900+n) 12:=by
 rw[J4];rfl
theorem fv:∀{i j:Nat},i<=j->Vd i<=Vd j:=by
 intro i j h
 induction h with
 |refl=>omega
 |step h ih=>
  grind[Vd]
theorem zK:∀{i j:Nat},i<=j->Dn y i<=Dn y j:=by
 intro i j h
 induction h with
 |refl=>omega
 |step h ih=>
  rename_i j;have:=uf (y:=y) (m:=j+1)
  grind[Dn]
theorem Y2{t:Int}(c:0<=t):∀N,t<Vd N->∃n,n<N/\Vd n<=t/\t<Vd (n+1)
 |0,h=>by grind[Vd]
 |N+1,h=>by
  by_cases d:t<Vd N
  .obtain⟨n,a,b⟩:=Y2 c N d
   grind
  grind
theorem NV{y t:Int}(c:0<=t):∀N,t<Dn y N->∃n,n<N/\Dn y n<=t/\t<Dn y (n+1)
 |0,h=>by grind[Dn]
 |N+1,h=>by
  by_cases d:t<Dn y N
  .obtain⟨n,a,b⟩:=NV c N d
   grind
  grind
structure Ymd (t:Int) (n m:Nat) (k:Int):Prop where
 hn:n<300
 hm:m<12
 hk:0<=k/\k<Cn (1900+n) (m+1)
 ht:t=Ah n m+k
variable {n:fr}{m:Int}{k:Bool->Option α}
theorem RF{t:Int}(b:0<=t) (h1:t<=109572):∃n m k,Ymd t n m k:=by
 obtain⟨n,a1,a2,a3⟩:=Y2 b 300 (by grind[ES]);rw[LA]at a3;obtain⟨m,a,b2,b3⟩:=NV (y:=1900+n) (t:=t-Vd n) U 12 U;refine⟨n,m,t-Vd n-Dn (1900+n) m,a1,a,⟨U,?_⟩,by grind[Ah]⟩
 grind[Dn]
theorem Ymd.year{t n m k}(h:Ymd t n m k):Vd n<=t/\t<Vd (n+1):=by
 obtain⟨h1,h2,h3,h4⟩:=h;have:=(Fl (y:=1900+n) m).1;have h5:=zK (y:=1900+n) (i:=m+1) (j:=12) U
 grind[Dn,Ah,LA]
theorem Ymd.range{t n m k}(h:Ymd t n m k):0<=t/\t<=109572:=by
 have h1:=h.year;have:=fv (i:=n+1) (j:=300) aaK;rw[ES]at this;have:=Dl n;omega
theorem Zl(t:Int):yp t=M (s6 (0<=t/\t<=109572)):=by
 grind[yp]
theorem tu(t:Int):gp t=M (s6 (0<=t/\t<=109572)):=by
 grind[gp]
theorem aV7{σ ρ:Type}{step:σ->Option (Ex σ β ρ)}{x0:σ}(S:Nat->σ) (n:Nat) (v:ρ) (hgo:∀i,i<n->step (S i)=M (.go (S (i+1)))) (hend:step (S n)=M (.ret v)) (a:x0=S 0):ca step x0=M (.inr v):=by
 subst a;have:∀k j,j+k=n->ca step (S j)=M (.inr v):=by
  intro k
  induction k with
  |zero=>simp_all[Ct]
  |succ k ih=>grind[Ke]
 simp_all
theorem xp{t n m k}(h:Ymd t n m k):mn t=M (1900+(n:Int),(m:Int)+1,k+1):=by
 have hr:=h.range;have hy:=h.year;unfold mn;rw[Zl,a!,p6 l5];have hq:t.tdiv 366=((t.toNat / 366:Nat):Int):=o4
 have hle:t.toNat / 366<=n:=by
  have:=(Dl (n+1)).2;omega
 have e1:ca (Kq t) (aa b! (1900+(aa b! (s? t 366))))=M (.inl (1900+(n:Int))):=by
  refine Nc (step:=Kq t) (λi=>1900+((t.toNat / 366+i:Nat):Int)) (n-t.toNat / 366) _ (λi hi=>?_) ?_ ?_
  .unfold Kq;have hm:=fv (i:=t.toNat / 366+i+1) (j:=n) U;have e:aa b! (1900+((t.toNat / 366+i:Nat):Int)+1)=1900+((t.toNat / 366+i+1:Nat):Int):=by
    rw[f? U aaK];omega
   rw[e,Un aaK,a!,J];rfl
  .unfold Kq;have e:aa b! (1900+((t.toNat / 366+(n-t.toNat / 366):Nat):Int)+1)=1900+((n+1:Nat):Int):=by
    rw[f? U aaK];omega
   rw[e,Un aaK,a!,p6]
   simp_all
  grind[f?]
 rw[e1,a!];dsimp only;rw[Un aaK,a!];have ht:=h.ht;unfold Ah at ht;have hmm:=Fl (y:=1900+n) m;have hkk:=h.hk;have hdd:=uf (y:=1900+n) (m:=m+1);have hyy:=Dl n;have hm12:=h.hm;have hn3:=h.hn;have e2:ca (Jq (1900+n)) (aa b! (t-Vd n),0)=M (.inr (1900+(n:Int),(m:Int)+1,k+1)):=by
  refine aV7 (step:=Jq (1900+n)) (λi=>(Dn (1900+n) m-Dn (1900+n) i+k,(i:Int))) m _ (λi hi=>?_) ?_ ?_
  .unfold Jq;dsimp only;have a:=zK (y:=1900+n) (i:=i+1) (j:=m) U;have h3:=(Fl (y:=1900+n) i);have h4:=uf (y:=1900+n) (m:=i+1);simp only[Dn]at a;rw[J,pa U,Xd U U U,a!];rw[show((i+1:Nat):Int)=(i:Int)+1 from rfl]at *;rw[p6,f? U U]
   grind[Dn]
  .unfold Jq;dsimp only;rw[J,pa U,Xd U U U,a!];rw[show((m+1:Nat):Int)=(m:Int)+1 from rfl]at *;rw[J,f? U U];simp
  grind[Dn,f?]
 simp_all
theorem Vu(h:0<=y):Wf y=M (Dn y 12):=by
 grind[Wf,pA,J4]
theorem YG{t n m k}(h:Ymd t n m k):Yr t=M (1900+(n:Int),(m:Int)+1,k+1):=by
 have hr:=h.range;have hy:=h.year;have ht:=h.ht;unfold Ah at ht;have hmm:=Fl (y:=1900+n) m;have hkk:=h.hk;have hdd:=uf (y:=1900+n) (m:=m+1);have hyy:=Dl n;have hm12:=h.hm;have hn3:=h.hn;unfold Yr;rw[tu,a!,p6 l5];have e1:ca wo (t,1900)=M (.inl (t-Vd n,1900+(n:Int))):=by
  refine Nc (step:=wo) (λi=>(t-Vd i,1900+(i:Int))) n _ (λi hi=>?_) ?_ (by simp[Vd])
  .unfold wo;dsimp only;have a:=fv (i:=i+1) (j:=n) U;have h2:=LA i;have b:=Dl i;have c:=Fl (y:=1900+i) 12;rw[Vu U,a!,J,a!,f? U U,f? U U,h2]
   grind
  .unfold wo;dsimp only;have h2:=LA n;rw[Vu U,a!,p6]
 rw[e1,a!];dsimp only;have e2:ca (vo (1900+n)) (t-Vd n,1)=M (.inl (k,(m:Int)+1)):=by
  refine Nc (step:=vo (1900+n)) (λi=>(Dn (1900+n) m-Dn (1900+n) i+k,(i:Int)+1)) m _ (λi hi=>?_) ?_ ?_
  .unfold vo;dsimp only;have a:=zK (y:=1900+n) (i:=i+1) (j:=m) U;have b:=(Fl (y:=1900+n) i);have c:=uf (y:=1900+n) (m:=i+1);simp only[Dn]at a⊢;rw[vc U U U,a!,J,a!,f? U U,f? U U]
   grind
  .unfold vo;dsimp only;rw[vc U U U,a!,p6];simp
  grind[Dn]
 grind[f?]
theorem NN{n m:Nat}(hn:n<300) (hm:m<12) (hd1:1<=d) (hd2:d<=Cn (1900+n) (m+1)):Yl (1900+n) (m+1) d=M (Ah n m+d-1,0):=by
 unfold Yl;have hy:=Dl n;have hd:=uf (y:=1900+n) (m:=(m:Int)+1);rw[J,J,J,J,J,Xd U U U,a!,a!,p6 l5,Un U,a!];have e:ca (me (1900+n) (m+1)) (Vd n,0)=M (.inl (Ah n m)):=Nc (step:=me (1900+n) (m+1)) (λi=>(Vd n+Dn (1900+n) i,(i:Int))) m (Ah n m) (λi hi=>by
  unfold me;dsimp only;rw[f? (n:=(m:Int)+1-1) U U,J,pa U,Xd U U U,a!];have:=Fl (y:=1900+n) i;have:=uf (y:=1900+n) (m:=((i+1:Nat):Int))
  grind[Dn,f?]) (by
  unfold me;dsimp only;rw[f? (n:=(m:Int)+1-1) U U,p6];rfl) (by simp[Dn])
 rw[e];have:=Fl (y:=1900+n) m
 grind[Ah,f?]
theorem uM{n m:Nat}(hn:n<300) (hm:m<12) (hd1:1<=d) (hd2:d<=Cn (1900+n) (m+1)):fg (1900+n) (m+1) d=M (Ah n m+d-1,0):=by
 unfold fg;have hd:=uf (y:=1900+n) (m:=(m:Int)+1);rw[J,J,J,vc U U U,a!,a!,p6 l5,f? (n:=d-1) U U];have e:ca (ud (1900+n)) (d-1,1900)=M (.inl (d-1+Vd n)):=Nc (step:=ud (1900+n)) (λi=>(d-1+Vd i,1900+(i:Int))) n (d-1+Vd n) (λi hi=>by
  unfold ud;dsimp only;have:=Dl i;have:=Fl (y:=1900+i) 12;rw[J,Vu U,a!,f? (n:=1900+(i:Int)+1) U U,f? U U,LA]
  grind) (by
  simp_all[ud]) (by simp[Vd])
 rw[e,a!];dsimp only;have hy:=Dl n;have hmo:=Fl (y:=1900+n) m;have e2:ca (td (1900+n) (m+1)) (d-1+Vd n,1)=M (.inl (Ah n m+d-1)):=Nc (step:=td (1900+n) (m+1)) (λi=>(d-1+Vd n+Dn (1900+n) i,(i:Int)+1)) m (Ah n m+d-1) (λi hi=>by
  unfold td;dsimp only;rw[J,vc U U U,a!];have:=Fl (y:=1900+n) i;have:=uf (y:=1900+n) (m:=(i:Int)+1)
  grind[Dn,f?]) (by
  grind[td,Ah]) (by simp[Dn])
 simp_all
def fQ(n m:Nat) (k j:Int):Int×Int:=
 if 12*(n:Int)+m+j<0\/3599<12*(n:Int)+m+j then(0,3)else
 (Ah ((12*(n:Int)+m+j) / 12).toNat ((12*(n:Int)+m+j) % 12).toNat+min (k+1) (Cn (1900+(12*(n:Int)+m+j) / 12) ((12*(n:Int)+m+j) % 12+1))-1,0)
theorem bz3{b:Prop} [Decidable b] [Decidable c] {x:Option Bool}(hx:x=M a38):(b? (α:=Bool) (x.bind λa=>if a=a38 then if¬b then M (decide c)else M a38 else M a38) k)=k (s6 (b\/c)):=by
 grind
theorem Zs{t n m k}(h:Ymd t n m k) {j:Int}(hj:-3600<=j/\j<=3600):qf t j=M (fQ n m k j):=by
 have hr:=h.range;have hkk:=h.hk;have hm12:=h.hm;have hn3:=h.hn;have hdd:=uf (y:=1900+n) (m:=m+1);unfold qf;rw[bz3 (by grind[Zl]),p6 l5,xp h,a!];have e:aa b! ((aa b! ((aa b! ((aa b! ((aa b! (1900+(n:Int)-1900))*12))+((m:Int)+1)))-1))+j)=12*(n:Int)+m+j:=by
  grind[f?]
 dsimp only;rw[e];unfold fQ;generalize 12*(n:Int)+m+j=K at *;by_cases a:K<0
 .simp_all
 .rw[J a,a!];by_cases h2:3599<K
  .simp_all
  .rw[p6 l5,p6];have e2:aa b! (1900+aa b! (s? K 12))=1900+((K / 12).toNat:Int):=by
    grind[f?]
   have e3:aa b! (v? K 12+1)=((K % 12).toNat:Int)+1:=by
    grind[f?]
   rw[e2,e3];have hd2:=uf (y:=1900+((K / 12).toNat:Int)) (m:=((K % 12).toNat:Int)+1);rw[Xd U U U,a!,NN U U U U,a!]
   grind
theorem cw{t n m k}(h:Ymd t n m k) {j:Int}(hj:-3600<=j/\j<=3600):Ug t j=M (fQ n m k j):=by
 have hr:=h.range;have hkk:=h.hk;have hm12:=h.hm;have hn3:=h.hn;have hdd:=uf (y:=1900+n) (m:=m+1);unfold Ug;rw[bz3 (by grind[tu]),p6 l5,YG h,a!];have e:aa b! ((aa b! ((aa b! ((aa b! (12*(1900+(n:Int))))+((m:Int)+1)))-1))+j)=22800+(12*(n:Int)+m+j):=by
  grind[f?]
 dsimp only;rw[e];unfold fQ;have hK:-3600<=12*(n:Int)+m+j/\12*(n:Int)+m+j<=7200:=U
 generalize 12*(n:Int)+m+j=K at *;have e2:aa b! (s? (22800+K) 12)=1900+K / 12:=by
  grind[f?]
 have e3:aa b! (v? (22800+K) 12+1)=K % 12+1:=by
  grind[f?]
 rw[e2,e3];have hd2:=uf (y:=1900+K / 12) (m:=K % 12+1);rw[vc U U U,a!];by_cases a:K<0
 .rw[J (.inl a)];unfold fg
  grind
 .by_cases h2:3599<K
  .rw[J (.inr h2)];unfold fg
   grind
  .rw[p6];have:=uM (n:=(K / 12).toNat) (m:=(K % 12).toNat) (d:=min (k+1) (Cn (1900+K / 12) (K % 12+1))) U U U (by
    grind)
   grind
theorem YA{t n m k}(h:Ymd t n m k) {i:Nat}:(n+i<300->∃c,Ymd (fQ n m k (12*i)).1 (n+i) m c/\(fQ n m k (12*i)).2=0/\(i=0->(fQ n m k (12*i)).1=t))/\(300<=n+i->fQ n m k (12*i)=(0,3)):=by
 have hkk:=h.hk;have a:=h.hm;have hn3:=h.hn;constructor
 .intro hi;have e1:(12*(n:Int)+m+12*i) / 12=((n+i:Nat):Int):=U
  have e2:(12*(n:Int)+m+12*i) % 12=(m:Int):=U
  unfold fQ;rw[p6,e1,e2];have hd2:=uf (y:=1900+((n+i:Nat):Int)) (m:=(m:Int)+1);simp only[cac];refine⟨min (k+1) (Cn (1900+((n+i:Nat):Int)) ((m:Int)+1))-1,⟨hi,a,U,U⟩,trivial,λb=>?_⟩;subst b;have:=h.ht
  grind
 grind[fQ]
theorem ax6(a b:Int):∃r,lg a b=M r/\Jk a b=M r/\0<=r/\r<=300:=by
 unfold lg Jk;rw[Zl,Zl,tu,tu];by_cases e:¬(0<=a/\a<=109572)
 .grind
 have e:=Xab.1 e;by_cases f:¬(0<=b/\b<=109572)
 .grind
 have f:=Xab.1 f;rw[s7 e,s7 f];simp only[a!,D1,Φ,t!,u4];obtain⟨c,k,g,ha⟩:=RF e.1 e.2;obtain⟨m,mb,kb,hb⟩:=RF f.1 f.2;have hya:=ha.year;have hyb:=hb.year;have hna:=ha.hn;have l:=hb.hn;have stop:∀N:Nat,c+N<300->(∀i,i<N->(fQ c k g (12*((i+1:Nat):Int))).2=0/\(fQ c k g (12*((i+1:Nat):Int))).1<=b)->((fQ c k g (12*((N+1:Nat):Int))).2≠0\/b<(fQ c k g (12*((N+1:Nat):Int))).1)->ca (lf a b) 0=M (.inr (N:Int)):=by
  intro N hN o hend;refine aV7 (step:=lf a b) (λi=>(i:Int)) N _ (λi hi=>?_) ?_ rfl
  .unfold lf;obtain⟨g1,g2⟩:=o i hi;rw[pa U,f? (n:=12*((i+1:Nat):Int)) U U,cw ha U,a!,J g1,a!,p6 (λh=>absurd (D2 h) (Int.not_lt.2 g2))]
  .unfold lf;rw[pa U,f? (n:=12*((N+1:Nat):Int)) U U,cw ha U,a!]
   grind
 by_cases hab:b<a
 .rw[J l5];refine⟨0,rfl,?_,U,U⟩;rw[stop 0 U (λi hi=>absurd hi (Nat.not_lt_zero _)) ?_]
  .rfl
  .rcases Κ (c+1) 300 with d|d
   .obtain⟨p,h2,h3,-⟩:=(YA ha (i:=1)).1 d;right;have h4:=h2.year
    grind
   .left;have:=(YA ha (i:=1)).2 d
    simp_all
 .rw[p6 l5,xp ha,a!,xp hb,a!];dsimp only;have hle:c<=m:=by
   rcases Κ m c with d|d
   .have:=fv (i:=m+1) (j:=c) U;omega
   omega
  obtain⟨Y,hY⟩:∃Y,m=c+Y:=⟨m-c,U⟩;subst hY;have e1:aa b! (1900+((c+Y:Nat):Int)-(1900+(c:Int)))=(Y:Int):=by grind[f?]
  rw[e1,f? (n:=12*(Y:Int)) U U,Zs ha U,a!];obtain⟨p,g1,g2,g3⟩:=(YA ha (i:=Y)).1 l;have below:∀i,i<Y->(fQ c k g (12*(i:Int))).2=0/\(fQ c k g (12*(i:Int))).1<=b:=by
   intro i hi;obtain⟨q,q1,s,-⟩:=(YA ha (i:=i)).1 U;have:=q1.year;have:=fv (i:=c+i+1) (j:=c+Y) U;omega
  rw[J g2,a!];by_cases hc:b<(fQ c k g (12*(Y:Int))).1
  .rw[J l5,a!];have hY0:Y≠0:=by
    omega
   obtain⟨Z,rfl⟩:∃Z,Y=Z+1:=⟨Y-1,U⟩;refine⟨(Z:Int),?_,?_,U,U⟩
   .grind[f?]
   .rw[stop Z U (λi hi=>below (i+1) U) (.inr hc)];rfl
  .rw[p6 l5,a!];refine⟨(Y:Int),o0,?_,U,U⟩;have s1:∀i,i<Y->(fQ c k g (12*((i+1:Nat):Int))).2=0/\(fQ c k g (12*((i+1:Nat):Int))).1<=b:=by
    intro i hi;rcases Κ (i+1) Y with d|d
    all_goals grind
   rw[stop Y l s1 ?_]
   .rfl
   .rcases Κ (c+(Y+1)) 300 with d|d
    .obtain⟨q,q1,s,-⟩:=(YA ha (i:=Y+1)).1 d;right;have:=q1.year
     grind
    .left;rw[(YA ha (i:=Y+1)).2 d]
     decide
theorem ax7(a b:Int):∃r,lg a b=M r/\0<=r/\r<=300:=by
 unfold lg;rw[Zl,Zl];by_cases d:¬(0<=a/\a<=109572)
 .grind
 have d:=Xab.1 d;by_cases e:¬(0<=b/\b<=109572)
 .grind
 have e:=Xab.1 e;rw[s7 d,s7 e];simp only[a!,D1,Φ,t!,u4];obtain⟨c,k,h,ha⟩:=RF d.1 d.2;obtain⟨f,mb,kb,hb⟩:=RF e.1 e.2;have hya:=ha.year;have hyb:=hb.year;have hna:=ha.hn;have g:=hb.hn;by_cases hab:b<a
 .simp_all
 .rw[p6 l5,xp ha,a!,xp hb,a!];dsimp only;have hle:c<=f:=by
   rcases Κ f c with l|l
   .have:=fv (i:=f+1) (j:=c) U;omega
   omega
  obtain⟨Y,hY⟩:∃Y,f=c+Y:=⟨f-c,U⟩;subst hY;have e1:aa b! (1900+((c+Y:Nat):Int)-(1900+(c:Int)))=(Y:Int):=by grind[f?]
  rw[e1,f? (n:=12*(Y:Int)) U U,Zs ha U,a!];obtain⟨k',g1,g2,g3⟩:=(YA ha (i:=Y)).1 g;have below:∀i,i<Y->(fQ c k h (12*(i:Int))).2=0/\(fQ c k h (12*(i:Int))).1<=b:=by
   intro i hi;obtain⟨k2,q1,q2,-⟩:=(YA ha (i:=i)).1 U;have:=q1.year;have:=fv (i:=c+i+1) (j:=c+Y) U;omega
  rw[J g2,a!];by_cases hc:b<(fQ c k h (12*(Y:Int))).1
  .rw[J l5,a!];have hY0:Y≠0:=by
    omega
   obtain⟨Z,rfl⟩:∃Z,Y=Z+1:=⟨Y-1,U⟩
   grind[f?]
  grind
def aB(r:ia) (d:Int):Bool:=χ r&&(s6 (r.n<=d)&&s6 (d<r.To))
theorem Mf(r:ia) (d:Int):fc r d=M (aB r d):=by
 grind[fc,aB,Ov]
theorem Ft(r:ia) (d:Int):yg r d=M (aB r d):=by
 grind[yg,aB,cy]
def dI(def_ date:Int) (r:kv):Bool:=s6 (r.u=def_)&&aB r.ab date
def Gf(rules:List kv) (q:kv->Bool):Nat->List Int×List Int×List Int
 |0=>([],[],k? rules.length 0)
 |i+1=>
  match rules[i]? with
  |none=>Gf rules q i
  |some r=>
   let p:=Gf rules q i
   let a:=if 0<=r.am/\r.am<(i:Int)then(p.2.2[r.am.toNat]?).getD 0 else -1
   if q r=a38 then(p.1++[(i:Int)],p.2.1++[a],(p.2.2.set i a).set i (p.1.length:Int))else(p.1,p.2.1,p.2.2.set i a)
theorem Fw{rules:List kv}{q:kv->Bool}:∀i,(Gf rules q i).2.2.length=rules.length/\(Gf rules q i).1.length<=i/\(Gf rules q i).2.1.length=(Gf rules q i).1.length
 |0=>by simp[Gf]
 |i+1=>by
  obtain⟨h1,h2,h3⟩:=Fw (rules:=rules) (q:=q) i
  grind[Gf]
theorem pJ{rules:List kv}{q:kv->Bool}:∀i,∀x∈(Gf rules q i).1,0<=x/\x<(rules.length:Int)/\x<(i:Int)
 |0=>by simp[Gf]
 |i+1=>by
  have h:=pJ (rules:=rules) (q:=q) i;unfold Gf
  grind
theorem lE{rules:List kv}(hr:rules.length<=1048576) {f:kv->Option Bool}{q:kv->Bool}(hf:∀r,f r=M (q r)):Jg rules f=M ((Gf rules q rules.length).1,(Gf rules q rules.length).2.1):=by
 unfold Jg;rw[RA U U,a!];have hl:ca (mg rules f) (([]:List Int),([]:List Int),k? rules.length 0,0)=M (.inl ((Gf rules q rules.length).1,(Gf rules q rules.length).2.1)):=by
  refine Nc (λi=>((Gf rules q i).1,(Gf rules q i).2.1,(Gf rules q i).2.2,(i:Int))) rules.length _ (λi hi=>?_) (by grind[mg]) rfl;obtain⟨h1,h2,h3⟩:=Fw (rules:=rules) (q:=q) i;unfold mg;simp only[Gf,n! hi];rw[J,va hi,a!,pa U,hf];generalize rules[i]=r;have hanc:(b? (α:=Int) (b? (α:=Bool) (if 0<=r.am then M (s6 (r.am<(i:Int)))else M a39) λd=>if d=a38 then(c! (Gf rules q i).2.2 r.am).bind λb=>M b else M (-1)) λc=>M c)=M (if 0<=r.am/\r.am<(i:Int)then((Gf rules q i).2.2[r.am.toNat]?).getD 0 else -1):=by
   by_cases g1:0<=r.am
   .by_cases g2:r.am<(i:Int)
    .rw[J g1,a!,J l5,J ⟨g1,g2⟩,nh g1 U,n! U];rfl
    grind
   grind
  have a:(b? (α:=Bool) (if 0<=r.am then M (s6 (r.am<(i:Int)))else M a39) λd=>if d=a38 then(c! (Gf rules q i).2.2 r.am).bind λb=>M b else M (-1))=M (if 0<=r.am/\r.am<(i:Int)then((Gf rules q i).2.2[r.am.toNat]?).getD 0 else -1):=by
   simp_all
  rw[a,a!];generalize (if 0<=r.am/\r.am<(i:Int)then((Gf rules q i).2.2[r.am.toNat]?).getD 0 else -1)=anc;rw[va (i:=i) U,a!,oE U,a!,a!];cases q r
  .simp
  .rw[J rfl,va (i:=i) l5,a!,oE l5,a!,Od o4,a!,Od o4,a!];rfl
 simp_all
theorem DM(hs:s.f.length<=1048576) (def_ date:Int):Au s def_ date=M (Gf s.f (dI def_ date) s.f.length).1:=by
 unfold Au;have hl:ca (Ho s def_ date) (([]:List Int),0)=M (.inl (Gf s.f (dI def_ date) s.f.length).1):=by
  refine Nc (λi=>((Gf s.f (dI def_ date) i).1,(i:Int))) s.f.length _ (λi hi=>?_) (by grind[Ho]) rfl;obtain⟨h1,h2,h3⟩:=Fw (rules:=s.f) (q:=dI def_ date) i;unfold Ho;simp only[Gf,n! hi];rw[J,va hi,a!,pa U,Ft];generalize s.f[i]=r;have hq:(if r.u=def_ then(M (aB r.ab date)).bind λa=>M a else M a39)=M (dI def_ date r):=by
   grind[dI]
  rw[hq,a!];cases dI def_ date r
  .simp
  .rw[J rfl,Od o4];rfl
 simp_all
def dN(neg:Bool) (mode:Int) (q r d:Nat):Prop:=
 (mode=0/\neg=a38/\0<r)\/(mode=1/\neg=a39/\0<r)\/(mode=3/\0<r)\/(mode=4/\d<=r+r)\/(mode=5/\(d<r+r\/(d=r+r/\q % 2=1)))
instance (neg:Bool) (mode:Int) (q r d:Nat):Decidable (dN neg mode q r d):=by unfold dN;infer_instance
def au(neg:Bool) (mode:Int) (q r d:Nat):Nat:=if dN neg mode q r d then q+1 else q
theorem Pz(neg:Bool) (mode:Int) (q r d:Nat):q<=au neg mode q r d/\au neg mode q r d<=q+1:=by
 grind[au]
def gH(neg:Bool) (n:Nat):Int:=if neg=a38 then -(n:Int)else n
theorem nU(neg:Bool) (n:Nat):(gH neg n).natAbs=n:=by grind[gH]
theorem wuN{n:Int}(h1:0<=n) (h2:n<18446744073709551616):aa .u64 n=n:=by
 grind[aa]
theorem Y0(q:Nat):((v? (q:Int) 2)==1)=s6 (q % 2=1):=by
 grind
theorem bm5{d q:Nat}:(if¬((d:Int)-r)<r then if(r:Int)=d-r then M (s6 (q % 2=1))else M a39 else M a38)=M (s6 (d<r+r\/(d=r+r/\q % 2=1))):=by
 by_cases a:(d:Int)-r<r
 .grind
 .rw[J a];by_cases h2:(r:Int)=d-r
  .rw[J h2];congr 1;grind
  .rw[p6 h2];simp;omega
theorem ZW{q d:Nat}(neg:Bool) (mode:Int) (hq:q<9223372036854775808) (hr:r<d) (hd:d<9223372036854775808):Vf q r d neg mode=M ((au neg mode q r d:Nat):Int):=by
 unfold Vf au;rw[wuN (n:=(d:Int)-r) U U,wuN (n:=(q:Int)+1) U U,Y0,bm5];by_cases a:r=0
 .subst a;rw[J (by rfl),p6 (by unfold dN;omega)]
 .rw[p6];unfold dN
  grind
theorem kq{q d:Nat}(neg:Bool) (mode:Int) (hq:q<9223372036854775807) (hr:r<d) (hd:d<9223372036854775808):di q r d neg mode=M (gH neg (au neg mode q r d)):=by
 unfold di au;rw[f? (n:=(d:Int)-r) U U,f? (n:=(q:Int)+1) U U,Y0];have hh:=bm5 (q:=q) (r:=r) (d:=d);have fin:∀u:Bool,(b? (α:=Int) (if u=a38 then M ((q:Int)+1)else M (q:Int)) λa=>if neg=a38 then M (aa b! (-a))else M a)=M (gH neg (if u=a38 then q+1 else q)):=by
  intro u;unfold gH;cases u<;>cases neg<;>simp
  all_goals grind[f?]
 have key:∀u:Bool,(u=a38↔dN neg mode q r d)->∀o:Option (Bool×Bool),o=M (neg,u)->(b? o λ(x:Bool×Bool)=>b? (α:=Int) (if x.2=a38 then M ((q:Int)+1)else M (q:Int)) λa=>if x.1=a38 then M (aa b! (-a))else M a)=M (gH neg (if dN neg mode q r d then q+1 else q)):=by
  simp_all
 by_cases e0:mode=0
 .subst e0;refine key (s6 (neg=a38/\0<r)) (by unfold dN;simp) _ ?_
  grind
 by_cases e1:mode=1
 .subst e1;refine key (s6 (neg=a39/\0<r)) (by unfold dN;simp) _ ?_
  grind
 by_cases e3:mode=3
 .subst e3;refine key (s6 (0<r)) (by unfold dN;simp) _ ?_;simp
 by_cases e4:mode=4
 .subst e4;refine key (s6 (d<=r+r)) (by unfold dN;simp) _ ?_
  grind
 by_cases e5:mode=5
 .subst e5;refine key (s6 (d<r+r\/(d=r+r/\q % 2=1))) (by unfold dN;simp) _ ?_
  grind
 refine key a39 (by unfold dN;simp_all) _ ?_
 simp_all
theorem Zv(n:Int):pj n=M (s6 (0<=n/\n<=5)):=by
 grind[pj]
theorem Jz(n:Int):Xr n=M (s6 (0<=n/\n<=5)):=by
 grind[Xr]
theorem aR2{n k:Int}(hx:x = -k):(b? (α:=Bool) (if¬k<n then M (s6 (n<x))else M a38) λj=>M j)=M (s6 (k<n\/n < -k)):=by
 subst hx;grind
theorem Fk{n k:Int}(h1:0<=k) (h2:k<9223372036854775808):wg n k=M (s6 (k<n\/n < -k)):=by
 unfold wg;exact aR2 (f? U U)
theorem tf{n k:Int}(h1:0<=k) (h2:k<9223372036854775808):Md n k=M (s6 (k<n\/n < -k)):=by
 unfold Md;exact aR2 (f? U U)
theorem aj{n:Int}(h1:-9223372036854775808<=n) (h2:n<9223372036854775808):Cf n=M (n.natAbs:Int):=by
 grind[Cf,aa]
theorem yv{n:Int}(h1:-9223372036854775808<n) (h2:n<9223372036854775808):Nq n=M (n.natAbs:Int):=by
 unfold Nq;by_cases h:n<0
 .rw[J h,f? U U];grind
 grind
theorem rF{q:Nat}(b:Bool) (h:q<9223372036854775808):Dt q b=M (gH b q):=by
 grind[Dt,gH,f?]
theorem ct8{a b:Nat}(h:0<b) (ha:a<9223372036854775808):quo .u64 (a:Int) (b:Int)=M ((a / b:Nat):Int):=by
 unfold quo;have:=gac a b;rw[p6,nad U,←Uae]
 grind[wuN]
theorem jaa{a b:Nat}{k:IntKind}(h:0<b):rem k (a:Int) (b:Int)=M ((a % b:Nat):Int):=by
 grind[rem]
theorem YT{a b:Nat}(h:0<b) (ha:a<9223372036854775808):quo b! (a:Int) (b:Int)=M ((a / b:Nat):Int):=by
 unfold quo;have:=gac a b;rw[p6,nad U,←Uae]
 grind[f?]
def tR(n d mode:Int):Int×Int:=
 if¬(0<=mode/\mode<=5)then(0,1)else
 if d=0 then(0,12)else
 if(4611686018427387904<n\/n < -4611686018427387904)\/(4611686018427387904<d\/d < -4611686018427387904)then(0,3)else
 (gH (!(s6 (n<0)==s6 (d<0))) (au (!(s6 (n<0)==s6 (d<0))) mode (n.natAbs / d.natAbs) (n.natAbs % d.natAbs) d.natAbs),0)
theorem or2{a b:Prop} [Decidable a] [Decidable b] (h:o=M (decide b)) :(b? (α:=Bool) ((M (decide a)).bind λx=>if x=a39 then o.bind λy=>M y else M a38) k)=k (s6 (a\/b)):=by
 grind
theorem Kh(n d mode:Int):vg n d mode=M (tR n d mode):=by
 unfold vg tR;rw[Zv,a!];by_cases hm:0<=mode/\mode<=5
 .rw[p6 l5,p6 (v!.2 hm)];by_cases a:d=0
  .simp_all
  .rw[p6 a,p6 a,Fk U U,or2 (Fk U U)];by_cases hb:(4611686018427387904<n\/n < -4611686018427387904)\/(4611686018427387904<d\/d < -4611686018427387904)
   .simp_all
   .rw[p6 l5,p6 hb,aj U U,a!,aj U U,a!];have hl:=gac n.natAbs d.natAbs;have hr:=(Pz (!(s6 (n<0)==s6 (d<0))) mode (n.natAbs / d.natAbs) (n.natAbs % d.natAbs) d.natAbs).2;rw[ct8 U U,a!,jaa U,a!,ZW _ _ U (Α _ U) U,a!,rF _ U];rfl
 simp_all
theorem QC(n d mode:Int):Hk n d mode=M (tR n d mode):=by
 unfold Hk tR;rw[Jz,a!];by_cases hm:0<=mode/\mode<=5
 .rw[p6 l5,p6 (v!.2 hm)];by_cases a:d=0
  .simp_all
  .rw[p6 a,p6 a,tf U U,or2 (tf U U)];by_cases hb:(4611686018427387904<n\/n < -4611686018427387904)\/(4611686018427387904<d\/d < -4611686018427387904)
   .simp_all
   .rw[p6 l5,p6 hb,yv U U,a!,yv U U,a!];have hl:=gac n.natAbs d.natAbs;rw[YT U U,a!,jaa U,a!,kq _ _ U (Α _ U) U];rfl
 simp_all
def mdS(c num den mode:Int):Int×Int:=
 if¬(0<=mode/\mode<=5)then(0,1)else
 if den=0 then(0,12)else
 if(1000000000000000<c\/c < -1000000000000000)\/(1000000000<num\/num < -1000000000)\/(1000000000<den\/den < -1000000000)then(0,3)else
 if au (!((!((s6 (c<0))==(s6 (num<0))))==(s6 (den<0)))) mode (c.natAbs*num.natAbs / den.natAbs) (c.natAbs*num.natAbs % den.natAbs) den.natAbs<=1000000000000000 then
  (gH (!((!((s6 (c<0))==(s6 (num<0))))==(s6 (den<0)))) (au (!((!((s6 (c<0))==(s6 (num<0))))==(s6 (den<0)))) mode (c.natAbs*num.natAbs / den.natAbs) (c.natAbs*num.natAbs % den.natAbs) den.natAbs),0)
 else(0,3)
theorem or3{a b:Prop} [Decidable a] [Decidable b] [Decidable c] {p:Option Bool}(h:o=M (decide b)) (h2:p=M (decide c)) :(b? (α:=Bool) ((M (decide a)).bind λx=>if x=a39 then o.bind λy=>if y=a39 then p.bind λz=>M z else M a38 else M a38) k)=k (s6 (a\/b\/c)):=by
 grind
theorem M4{x y:Nat}(hx:x<18446744073709551616) (hy:y<18446744073709551616):Bf x y=M (((x*y / 18446744073709551616:Nat):Int),((x*y % 18446744073709551616:Nat):Int)):=by
 grind[Bf]
theorem ar4{p:Nat}(hp:p / 18446744073709551616<z) (hz:z<18446744073709551616):Tg ((p / 18446744073709551616:Nat):Int) ((p % 18446744073709551616:Nat):Int) z=M (((p / z:Nat):Int),((p % z:Nat):Int)):=by
 grind[Tg]
theorem sR{p:Nat}(a:0<z) (h:z<=p / 18446744073709551616):18446744073709551616<=p / z:=by
 rw[Nat.le_div_iff_mul_le a];omega
theorem qF(c num den mode:Int):Yv c num den mode=M (mdS c num den mode):=by
 unfold Yv mdS;rw[Zv,a!];by_cases hm:0<=mode/\mode<=5
 .rw[p6 l5,p6 (v!.2 hm)];by_cases e:den=0
  .simp_all
  .rw[p6 e,p6 e,Fk U U,or3 (Fk U U) (Fk U U)];by_cases hb:(1000000000000000<c\/c < -1000000000000000)\/(1000000000<num\/num < -1000000000)\/(1000000000<den\/den < -1000000000)
   .simp_all
   .rw[p6 l5,p6 hb,aj U U,a!,aj U U,a!];generalize (!((!((s6 (c<0))==(s6 (num<0))))==(s6 (den<0))))=ng;obtain⟨x,hx⟩:∃x,c.natAbs=x:=⟨_,rfl⟩;obtain⟨y,k⟩:∃x,num.natAbs=x:=⟨_,rfl⟩;obtain⟨z,f⟩:∃x,den.natAbs=x:=⟨_,rfl⟩;have a:=aj (n:=den) U U;rw[f]at a;rw[hx,k,f,a];have g:x<=1000000000000000:=U
    have bY:y<=1000000000:=U
    have d:z<=1000000000/\0<z:=U
    have b:x*y<=1000000000000000000000000:=N? (dac g bY) p5;rw[M4 U U];simp only[a!];generalize x*y=p at b⊢;by_cases j:z<=p / 18446744073709551616
    .rw[J,if_neg];have h:=(Pz ng mode (p / z) (p % z) z).1;have h2:=sR d.2 j;omega
    .rw[p6,ar4 U U];simp only[a!];have h:=Pz ng mode (p / z) (p % z) z;by_cases hq:p / z<=1000000000000000
     .rw[p6,ZW _ _ U (Α _ d.2) U,a!];by_cases i:au ng mode (p / z) (p % z) z<=1000000000000000
      .rw[p6,J i,rF _ U];rfl
      grind
     grind
 simp_all
theorem cP(c num den mode:Int):bw c num den mode=M (mdS c num den mode):=by
 unfold bw mdS;rw[Jz,a!];by_cases hm:0<=mode/\mode<=5
 .rw[p6 l5,p6 (v!.2 hm)];by_cases o:den=0
  .simp_all
  .rw[p6 o,p6 o,tf U U,or3 (tf U U) (tf U U)];by_cases hb:(1000000000000000<c\/c < -1000000000000000)\/(1000000000<num\/num < -1000000000)\/(1000000000<den\/den < -1000000000)
   .simp_all
   .rw[p6 l5,p6 hb,yv U U,a!,yv U U,a!,yv U U,a!];generalize (!((!((s6 (c<0))==(s6 (num<0))))==(s6 (den<0))))=ng;obtain⟨x,hx⟩:∃x,c.natAbs=x:=⟨_,rfl⟩;obtain⟨y,r⟩:∃x,num.natAbs=x:=⟨_,rfl⟩;obtain⟨z,s⟩:∃x,den.natAbs=x:=⟨_,rfl⟩;rw[hx,r,s];have bx:x<=1000000000000000:=U
    have bY:y<=1000000000:=U
    have d:z<=1000000000/\0<z:=U
    have e0:x=z*(x / z)+x % z:=(aac _ _).symm;have e1:x % z<z:=Α _ d.2;have hdx:=gac x z;have e:(b? (α:=Bool) (if 0<(y:Int)then(quo b! (x:Int) (z:Int)).bind λf=>(quo b! 1000000000000000 (y:Int)).bind λg=>M (s6 (g<f))else M a39) λj=>M j)=M (s6 (0<y/\1000000000000000 / y<x / z)):=by
     by_cases i:0<y
     .rw[J,YT d.2 U,a!,show(1000000000000000:Int)=((1000000000000000:Nat):Int)from rfl,YT i U];simp only[a!,i,R1];congr 1;grind
     grind
    have a:∀{α:Type} (k:Bool->Option α),(b? (α:=Bool) (if 0<(y:Int)then(quo b! (x:Int) (z:Int)).bind λf=>(quo b! 1000000000000000 (y:Int)).bind λg=>M (s6 (g<f))else M a39) k)=k (s6 (0<y/\1000000000000000 / y<x / z)):=by
     grind
    rw[a];have b:x*y=z*(x / z*y)+x % z*y:=by
     grind
    have hlo:x % z*y<=1000000000*1000000000:=dac U bY;have l:(x*y) / z=x / z*y+x % z*y / z:=by
     rw[b,Nat.mul_add_div d.2]
    have m:(x*y) % z=x % z*y % z:=by
     simp
    by_cases ho:0<y/\1000000000000000 / y<x / z
    .rw[J o4,if_neg];have p:=(Pz ng mode (x*y / z) (x*y % z) z).1;have h2:1000000000000000<x / z*y:=(wac ho.1).1 ho.2
     grind
    .rw[p6 o4,jaa d.2,a!,YT d.2 U,a!];have hq:x / z*y<=1000000000000000:=by
      rcases Vad y with h|h
      .grind
      .have q:x / z<=1000000000000000 / y:=by
        omega
       exact N? (Β y q) (uad _ _)
     have c1:((x % z:Nat):Int)*(y:Int)=((x % z*y:Nat):Int):=o0
     have c2:((x / z:Nat):Int)*(y:Int)=((x / z*y:Nat):Int):=o0
     rw[c1,c2];have hdl:=gac (x % z*y) z;clear c1 c2 b e a;generalize x / z*y=A at *;generalize x % z*y=L at *;rw[f? (n:=(L:Int)) U U,YT d.2 U,a!,jaa d.2,a!];generalize L / z=B at *;rw[f? (n:=(A:Int)) U U,f? U U,←Int.natCast_add,←l,←m];have p:=Pz ng mode (x*y / z) (x*y % z) z;rw[kq _ _ U (Α _ d.2) U,a!,tf U U,a!];have h2:=nU ng (au ng mode (x*y / z) (x*y % z) z)
     grind
 simp_all
theorem PC(n:Int):so n=M (s6 (0<=n/\n<=5)):=by
 grind[so]
theorem qu{n k:Int}(h1:0<=k) (h2:k<9223372036854775808):zm n k=M (s6 (k<n\/n < -k)):=by
 unfold zm;exact aR2 (f? U U)
theorem Ik{n k:Int}(h1:0<=k) (h2:k<9223372036854775808):xg n k=M (s6 (k<n\/n < -k)):=by
 unfold xg;exact aR2 (by rw[f? U U];omega)
theorem fJ(c r mode:Int):Uu c r mode=M (mdS c r 1000000 mode):=by
 grind[Uu,qF]
theorem PQ(c r mode:Int):Ky c r mode=M (mdS c r 1000000 mode):=by
 grind[Ky,cP]
def l6(mode q r d:Int):Prop:=
 r≠0/\(mode=1\/(mode=2/\q<0)\/(mode=3/\0<=q)\/(mode=4/\(d-r<r\/(r=d-r/\0<=q)))\/(mode=5/\(d-r<r\/(r=d-r/\q % 2≠0))))
instance (mode q r d:Int):Decidable (l6 mode q r d):=by unfold l6;infer_instance
def aN(mode q r d:Int):Int:=if l6 mode q r d then q+1 else q
theorem ba9(q:Int):(v? q 2 !=0)=s6 (q % 2≠0):=by
 grind
theorem YD{q r:Int}(hq:-9223372036854775808<=q/\q<9223372036854775807) (hr:0<=r/\r<d) (hd:d<9223372036854775808):Oq q r d mode=M (aN mode q r d):=by
 unfold Oq aN;rw[f? (n:=d-r) U U,f? (n:=q+1) U U,ba9];by_cases a:r=0
 .rw[J a,p6 (by unfold l6;omega)]
 .rw[p6 a];unfold l6
  grind
theorem V0(N d:Int) (hd:0<d):(v? N d<0->N / d=s? N d-1/\N % d=v? N d+d)/\(¬v? N d<0->N / d=s? N d/\N % d=v? N d):=by
 have a:=qae N d;have h2:=Uad N hd;have b:-d<v? N d:=by
  rcases Int.le_total 0 N with h|h
  .have:=Int.tmod_nonneg d h;omega
  .have:=Uad (-N) hd;rw[Int.neg_tmod]at this;omega
 generalize v? N d=r at a h2 b⊢;generalize s? N d=q at a⊢;constructor
 .intro h;have e:N=(r+d)+d*(q-1):=o4
  rw[e,gad _ _ U,Nac,aad U U,Bad U U];omega
 .intro h;have e:N=r+d*q:=U
  rw[e,gad _ _ U,Nac,aad U U,Bad U U];omega
theorem XG(hN:-9223372036854775807<=N/\N<=9223372036854775807) (hd:0<d) (hd2:d<9223372036854775808):zv N d=M (N / d,N % d):=by
 have hb:-9223372036854775807<=s? N d/\s? N d<=9223372036854775807:=by
  have:=Int.natAbs_tdiv_le_natAbs N d;omega
 obtain⟨f1,f2⟩:=V0 N d hd;have hr:=cad N hd;have hr0:=had N (show d≠0 by omega);unfold zv quo rem;rw[p6,p6,a!,a!,f? (n:=s? N d) U U];by_cases c:v? N d<0
 .obtain⟨e1,e2⟩:=f1 c;rw[J c,f? U U,f? U U,e1,e2]
 grind
theorem wA(N:Int) (d:Nat) (mode:Int) (hd:0<d) (neg:Bool) (g:N=0\/neg=s6 (N<0)) (hm:0<=mode/\mode<=5) :
 gH neg (au neg mode (N.natAbs / d) (N.natAbs % d) d)=aN mode (N / d) (N % d) d:=by
 have m:=aac N.natAbs d;have n:=Α N.natAbs hd;obtain⟨a,ha⟩:∃a,N.natAbs / d=a:=⟨_,rfl⟩;obtain⟨b,hb⟩:∃a,N.natAbs % d=a:=⟨_,rfl⟩;rw[ha,hb]at m;rw[hb]at n;rw[ha,hb];by_cases hN:0<=N
 .have e1:N=(N.natAbs:Int):=U
  have q1:N / (d:Int)=(a:Int):=o4
  have i:N % (d:Int)=(b:Int):=o4
  rw[q1,i];have hn:b=0\/neg=a39:=by
   grind
  have key:dN neg mode a b d↔l6 mode a b d:=by
   unfold dN l6
   grind
  have p:∀k:Nat,(b=0->k=a)->gH neg k=(k:Int):=λk hk=>by
   unfold gH;rcases hn with h|h
   .have h0:a=0\/neg=a39:=by
     rcases g with o|o
     .left;subst o;simp at ha;omega
     grind
    grind
   grind
  unfold au aN;by_cases c:dN neg mode a b d
  .rw[J c,J (key.1 c)];rw[p _ (λl=>absurd c (by rw[l];unfold dN;omega))];omega
  grind
 .have e1:N = -(N.natAbs:Int):=U
  have hn:neg=a38:=by
   grind
  subst hn;have f:N = -((d:Int)*a+b):=U
  unfold gH;simp only[D1];by_cases j:b=0
  .have q1:N / (d:Int) = -(a:Int):=by
    rw[f,j];simp only[Iad,Int.add_zero];rw[←Int.mul_neg,Int.mul_ediv_cancel_left _ U]
   have i:N % (d:Int)=0:=by
    rw[f,j];simp
   rw[q1,i];unfold au aN;rw[p6 (by rw[j];unfold dN;omega),p6 (by simp[l6])]
  .have e:N=((d:Int)-b)+d*(-(a:Int)-1):=o4
   have q1:N / (d:Int) = -(a:Int)-1:=by
    rw[e,gad _ _ U,aad U U];omega
   have i:N % (d:Int)=(d:Int)-b:=by
    rw[e,Nac,Bad U U]
   rw[q1,i];have key:dN a38 mode a b d↔¬l6 mode (-(a:Int)-1) ((d:Int)-b) d:=by
    unfold dN l6 at *
    grind
   grind[au,aN]
def xW(a b mode:Int):Int×Int:=
 if¬(0<=mode/\mode<=5)then(0,1)else
 if(1000000000<a\/a < -1000000000)\/(1000000000<b\/b < -1000000000)then(0,3)else
 if 1000000000<aN mode (a*b / 1000000) (a*b % 1000000) 1000000\/aN mode (a*b / 1000000) (a*b % 1000000) 1000000 < -1000000000 then(0,3)else
 (aN mode (a*b / 1000000) (a*b % 1000000) 1000000,0)
theorem TR{a b:Int}(h1:¬(1000000000<a\/a < -1000000000)) (h2:¬(1000000000<b\/b < -1000000000)):-1000000000000000000<=a*b/\a*b<=1000000000000000000:=by
 have:=dac (show a.natAbs<=1000000000 by omega) (show b.natAbs<=1000000000 by omega);rw[←Xad]at this;omega
theorem XO(a b mode:Int):wF a b mode=M (xW a b mode):=by
 unfold wF xW;rw[PC,a!];by_cases hm:0<=mode/\mode<=5
 .rw[p6 l5,p6 (v!.2 hm),qu U U,or2 (qu U U)];by_cases hb:(1000000000<a\/a < -1000000000)\/(1000000000<b\/b < -1000000000)
  .simp_all
  .rw[p6 l5,p6 hb,Kh];have c:=TR (λh=>hb (.inl h)) (λh=>hb (.inr h));generalize a*b=p at c⊢;rw[f? U U];have d:gH (!(s6 (p<0)==s6 ((1000000:Int)<0))) (au (!(s6 (p<0)==s6 ((1000000:Int)<0))) mode (p.natAbs / 1000000) (p.natAbs % 1000000) 1000000)=aN mode (p / 1000000) (p % 1000000) 1000000:=wA p 1000000 mode p5 (!(s6 (p<0)==s6 ((1000000:Int)<0))) (.inr o0) hm;unfold tR;rw[p6 (v!.2 hm),p6 p5,p6];simp only[a!];rw[show(1000000:Int).natAbs=1000000 from rfl,d,p6 o0,qu U U,a!]
   grind
 simp_all
theorem I4{n:Int}:(b? (α:=Bool) (if¬n<0 then M (s6 (5<n))else M a38) k)=k (s6 (¬(0<=n/\n<=5))):=by
 grind
theorem FZ(mode q r d:Int):q<=aN mode q r d/\aN mode q r d<=q+1:=by grind[aN]
theorem NW(a b mode:Int):RC a b mode=M (xW a b mode):=by
 unfold RC xW;rw[I4];by_cases hm:0<=mode/\mode<=5
 .rw[p6 l5,p6 (v!.2 hm),Ik U U,or2 (Ik U U)];by_cases hb:(1000000000<a\/a < -1000000000)\/(1000000000<b\/b < -1000000000)
  .simp_all
  .rw[p6 l5,p6 hb];have c:=TR (λh=>hb (.inl h)) (λh=>hb (.inr h));generalize a*b=p at c⊢;rw[f? U U,XG U U U,a!];simp only[];rw[YD U U U,a!,Ik U U,a!]
   grind
 simp_all
def frS(num den mode:Int):Int×Int:=
 if¬(0<=mode/\mode<=5)then(0,1)else
 if den=0 then(0,12)else
 if(1000000000000000<num\/num < -1000000000000000)\/(1000000000000000<den\/den < -1000000000000000)then(0,3)else
 if au (!(s6 (num<0)==s6 (den<0))) mode (num.natAbs*1000000 / den.natAbs) (num.natAbs*1000000 % den.natAbs) den.natAbs<=1000000000 then
  (gH (!(s6 (num<0)==s6 (den<0))) (au (!(s6 (num<0)==s6 (den<0))) mode (num.natAbs*1000000 / den.natAbs) (num.natAbs*1000000 % den.natAbs) den.natAbs),0)
 else(0,3)
theorem E0{q d:Nat}(neg:Bool) (mode:Int) (hr:r<d) (hd:d<9223372036854775808):ru q r d neg mode=M (s6 (dN neg mode q r d)):=by
 unfold ru;rw[wuN (n:=(d:Int)-r) U U,Y0,bm5];by_cases a:r=0
 .subst a;rw[J (by rfl)];congr 1;symm;rw[decide_eq_false_iff_not];unfold dN;omega
 .rw[p6];unfold dN;have hp:0<r:=U
  by_cases e0:mode=0
  .simp_all
  by_cases e1:mode=1
  .simp_all
  by_cases e3:mode=3
  .simp_all
  by_cases e4:mode=4
  .subst e4;simp;omega
  grind
theorem WM{n:Int}(h1:-9223372036854775808<n) (h2:n<9223372036854775808):aa .u64 (max n (aa b! (-n)))=((n.natAbs:Nat):Int):=by
 grind[f?,wuN]
theorem OC(num den mode:Int):Wr num den mode=M (frS num den mode):=by
 unfold Wr frS;rw[PC,a!];by_cases hm:0<=mode/\mode<=5
 .rw[p6 l5,p6 (v!.2 hm)];by_cases e:den=0
  .simp_all
  .rw[p6 e,p6 e,qu U U,or2 (qu U U)];by_cases hb:(1000000000000000<num\/num < -1000000000000000)\/(1000000000000000<den\/den < -1000000000000000)
   .simp_all
   .rw[p6 l5,p6 hb,WM U U,WM U U];have a:(¬(s6 (num<0))=(s6 (den<0)))↔(!(s6 (num<0)==s6 (den<0)))=a38:=by
     simp
    generalize (!(s6 (num<0)==s6 (den<0)))=ng at a⊢;obtain⟨x,hx⟩:∃x,num.natAbs=x:=⟨_,rfl⟩;obtain⟨z,h⟩:∃x,den.natAbs=x:=⟨_,rfl⟩;rw[hx,h];have bx:x<=1000000000000000:=U
    have d:z<=1000000000000000/\0<z:=U
    rw[show(1000000:Int)=((1000000:Nat):Int)from rfl,M4 U U];simp only[a!];have b:x*1000000<=1000000000000000000000:=U
    generalize x*1000000=p at b⊢;by_cases g:z<=p / 18446744073709551616
    .rw[J,if_neg];have f:=(Pz ng mode (p / z) (p % z) z).1;have h2:=sR d.2 g;omega
    .rw[p6,ar4 U U];simp only[a!];have f:=Pz ng mode (p / z) (p % z) z;by_cases hq:p / z<=1000000000
     .rw[p6,E0 _ _ (Α _ d.2) U,f? (n:=((p / z:Nat):Int)) U U,f? (n:=((p / z:Nat):Int)+1) U U];simp only[a!,w3];have hfin:∀R:Nat,R<=1000000001->(if(1000000000:Int)<(R:Int)then M ((0:Int),(3:Int))else b? (α:=Int) (if¬(s6 (num<0))=(s6 (den<0))then M (aa b! (-(R:Int)))else M (R:Int)) λc=>M (c,0))=M (if R<=1000000000 then(gH ng R,0)else(0,3)):=by
       intro R hR;by_cases hr:R<=1000000000
       .rw[p6,J hr];unfold gH;by_cases hn:ng=a38
        .rw[J (a.2 hn),J hn,a!,f? U U]
        simp_all
       grind
      grind[au]
     grind
 simp_all
theorem tU(N d:Int) (hd:0<d) :
 N*1000000 / d=N / d*1000000+N % d*1000 / d*1000+N % d*1000 % d*1000 / d/\N*1000000 % d=N % d*1000 % d*1000 % d:=by
 have h1:=Pac N d;have h2:=Pac (N % d*1000) d;have h3:=Pac (N % d*1000 % d*1000) d;have h4:=cad (N % d*1000 % d*1000) hd;have h5:=had (N % d*1000 % d*1000) (show d≠0 by omega);generalize N % d*1000 % d*1000 % d=c at *;generalize N % d*1000 % d*1000 / d=b at *;generalize N % d*1000 % d=r1 at *;generalize N % d*1000 / d=a at *;generalize N % d=r at *;generalize N / d=q at *;have e:N*1000000=c+d*(q*1000000+a*1000+b):=by
  grind
 rw[e,gad _ _ U,Nac,aad U U,Bad U U];omega
theorem by1{a b:Int}(ha:0<=a/\a<9223372036854775808) (hb:0<b):quo b! a b=M (a / b):=by
 obtain⟨x,rfl⟩:=V' ha.1;obtain⟨y,rfl⟩:=V' (laf hb)
 grind[YT]
theorem bx5{a b:Int}{k:IntKind}(ha:0<=a) (hb:0<b):rem k a b=M (a % b):=by
 obtain⟨x,rfl⟩:=V' ha;obtain⟨y,rfl⟩:=V' (laf hb)
 grind[jaa]
theorem gJ(num den mode:Int):mq num den mode=M (frS num den mode):=by
 unfold mq frS;rw[I4];by_cases hm:0<=mode/\mode<=5
 .rw[p6 l5,p6 (v!.2 hm)];by_cases k:den=0
  .simp_all
  .rw[p6 k,p6 k,Ik U U,or2 (Ik U U)];by_cases hb:(1000000000000000<num\/num < -1000000000000000)\/(1000000000000000<den\/den < -1000000000000000)
   .simp_all
   .rw[p6 l5,p6 hb];obtain⟨N,hN⟩:∃N,(if den<0 then -num else num)=N:=⟨_,rfl⟩;obtain⟨d,hd⟩:∃d,den.natAbs=d:=⟨_,rfl⟩;have a2:d<=1000000000000000/\0<d:=U
    have i:(if den<0 then M ((aa b! (0-num)),(aa b! (0-den)))else M (num,den))=M (N,(d:Int)):=by
     by_cases c:den<0
     .rw[J c]at hN⊢;grind[f?]
     grind
    rw[i,a!];simp only[];have h:(N*1000000).natAbs=num.natAbs*1000000:=U
    have g:N*1000000=0\/(!(s6 (num<0)==s6 (den<0)))=s6 (N*1000000<0):=by
     grind
    have e:=wA (N*1000000) d mode a2.2 (!(s6 (num<0)==s6 (den<0))) g hm;rw[h]at e;rw[hd];obtain⟨t1,t2⟩:=tU N d U;rw[t1,t2]at e;have hNb:-1000000000000000<=N/\N<=1000000000000000:=U
    have hdm:=Pac N d;have hr1:=cad N (show(0:Int)<d by omega);have hr0:=had N (show(d:Int)≠0 by omega);have big:(1001<N / d\/N / d < -1001)->¬au (!(s6 (num<0)==s6 (den<0))) mode (num.natAbs*1000000 / d) (num.natAbs*1000000 % d) d<=1000000000:=by
     intro hb j;have h2:=N? (Pz (!(s6 (num<0)==s6 (den<0))) mode (num.natAbs*1000000 / d) (num.natAbs*1000000 % d) d).1 j;have h3:=aac (num.natAbs*1000000) d;have h4:=Α (num.natAbs*1000000) a2.2;have h5:=Nat.mul_le_mul_left d h2;have h6:num.natAbs=N.natAbs:=U
     rcases hb with hb|hb
     .have l:(d:Int)*1002<=d*(N / d):=Had U U;omega
     .have l:(d:Int)*(N / d)<=d*(-1002):=Had U U;omega
    rw[XG U U U,a!];simp only[];generalize au (!(s6 (num<0)==s6 (den<0))) mode (num.natAbs*1000000 / d) (num.natAbs*1000000 % d) d=R at e big⊢;generalize (!(s6 (num<0)==s6 (den<0)))=ng at e⊢;clear t1 t2;generalize hqq:N / (d:Int)=q at *;generalize hrr:N % (d:Int)=r at *;rw[Ik U U,a!];by_cases hq:1001<q\/q < -1001
    .simp_all
    .rw[p6 l5];have ha:=pae (a:=r*1000) (b:=1000) (c:=d) U U;have ha0:=Xae (a:=r*1000) (b:=d) U U;have s1:=cad (r*1000) (show(0:Int)<d by omega);have s0:=had (r*1000) (show(d:Int)≠0 by omega);rw[f? (n:=r*1000) U U,by1 U U,a!,bx5 U U,a!];generalize r*1000 % (d:Int)=f at *;generalize r*1000 / (d:Int)=a at *;have hb:=pae (a:=f*1000) (b:=1000) (c:=d) U U;have hb0:=Xae (a:=f*1000) (b:=d) U U;have u1:=cad (f*1000) (show(0:Int)<d by omega);have u0:=had (f*1000) (show(d:Int)≠0 by omega);rw[f? (n:=f*1000) U U,by1 U U,a!,bx5 U U,a!];generalize f*1000 % (d:Int)=r2 at *;generalize f*1000 / (d:Int)=b at *;rw[f? (n:=q*1000000) U U,f? (n:=a*1000) U U,f? (n:=q*1000000+a*1000) U U,f? (n:=q*1000000+a*1000+b) U U,YD U U U,a!,←e,Ik U U,a!];have h2:=nU ng R
     grind
 simp_all
def rtS(c unit mode:Int):Int×Int:=
 if¬(0<=mode/\mode<=5)then(0,1)else
 if unit<1 then(0,12)else
 if(1000000000000000<c\/c < -1000000000000000)\/1000000000000000<unit then(0,3)else
 if 1000000000000000<gH (s6 (c<0)) (au (s6 (c<0)) mode (c.natAbs / unit.natAbs) (c.natAbs % unit.natAbs) unit.natAbs)*unit\/gH (s6 (c<0)) (au (s6 (c<0)) mode (c.natAbs / unit.natAbs) (c.natAbs % unit.natAbs) unit.natAbs)*unit < -1000000000000000 then(0,3)else
 (gH (s6 (c<0)) (au (s6 (c<0)) mode (c.natAbs / unit.natAbs) (c.natAbs % unit.natAbs) unit.natAbs)*unit,0)
theorem dX{c unit:Int}{ng:Bool}(hc:¬(1000000000000000<c\/c < -1000000000000000)) (hu:1<=unit/\unit<=1000000000000000):-2000000000000000<=gH ng (au ng mode (c.natAbs / unit.natAbs) (c.natAbs % unit.natAbs) unit.natAbs)*unit/\gH ng (au ng mode (c.natAbs / unit.natAbs) (c.natAbs % unit.natAbs) unit.natAbs)*unit<=2000000000000000:=by
 have a:=(Pz ng mode (c.natAbs / unit.natAbs) (c.natAbs % unit.natAbs) unit.natAbs).2;have h2:(gH ng (au ng mode (c.natAbs / unit.natAbs) (c.natAbs % unit.natAbs) unit.natAbs)*unit).natAbs<=2000000000000000:=by
  rw[Xad,nU];have h3:=Β unit.natAbs a;have h4:=uad c.natAbs unit.natAbs
  grind
 omega
theorem bz4{a b:Prop} [Decidable a] [Decidable b] :(b? (α:=Bool) ((M (decide a)).bind λx=>if x=a39 then M (decide b)else M a38) k)=k (s6 (a\/b)):=by
 grind
theorem WD(c unit mode:Int):ou c unit mode=M (rtS c unit mode):=by
 unfold ou rtS;rw[Zv,a!];by_cases hm:0<=mode/\mode<=5
 .rw[p6 l5,p6 (v!.2 hm)];by_cases d:unit<1
  .simp_all
  .rw[p6 d,p6 d,Fk U U,bz4];by_cases hb:(1000000000000000<c\/c < -1000000000000000)\/1000000000000000<unit
   .simp_all
   .rw[p6 l5,p6 hb,Kh];have a:=dX (c:=c) (unit:=unit) (mode:=mode) (ng:=s6 (c<0)) (λh=>hb (.inl h)) U;unfold tR;rw[p6 (v!.2 hm),p6,p6];have hu:s6 (unit<0)=a39:=o4
    simp only[a!,hu];have b:(!(s6 (c<0)==a39))=s6 (c<0):=o0
    rw[b];generalize gH (s6 (c<0)) (au (s6 (c<0)) mode (c.natAbs / unit.natAbs) (c.natAbs % unit.natAbs) unit.natAbs)*unit=q at a⊢;rw[p6 o0,f? U U,Fk U U,a!]
    grind
 simp_all
theorem tM(c unit mode:Int):su c unit mode=M (rtS c unit mode):=by
 unfold su rtS;rw[Jz,a!];by_cases hm:0<=mode/\mode<=5
 .rw[p6 l5,p6 (v!.2 hm)];by_cases b:unit<1
  .simp_all
  .rw[p6 b,p6 b,tf U U,bz4];by_cases hb:(1000000000000000<c\/c < -1000000000000000)\/1000000000000000<unit
   .simp_all
   .rw[p6 l5,p6 hb,yv U U,a!];have a:=dX (c:=c) (unit:=unit) (mode:=mode) (ng:=s6 (c<0)) (λh=>hb (.inl h)) U;obtain⟨u,rfl⟩:=V' (show 0<=unit by omega);have hl:=gac c.natAbs u;rw[YT U U,a!,jaa U,a!,kq _ _ U (Α _ U) U,a!];rw[show(Int.natAbs (u:Int))=u from rfl]at a⊢;generalize gH (s6 (c<0)) (au (s6 (c<0)) mode (c.natAbs / u) (c.natAbs % u) u)*(u:Int)=q at a⊢;rw[f? U U,tf U U,a!]
    grind
 simp_all
theorem xF(hl:l.length<=1048576):∃r,Gt l x=M r/\r.length<=l.length+1/\∀y,y∈r↔y∈l\/y=x:=by
 unfold Gt;have hf:∀(p:Int->Bool) i,((l.take i).filter p).length<=l.length:=λp i=>by
  grind
 have e1:=Bz (step:=pq l x) (l:=l) rfl (λl=>l.filter λy=>s6 (y<x)) [] (λi hi=>by
  have a:=hf (λy=>s6 (y<x)) i;rw[Fb hi,δ];have ha:=Od (b:=8) (show(((l.take i).filter λy=>s6 (y<x)).length + [l[i]].length)*8<=140737488355328 by grind);generalize ((l.take i).filter λy=>s6 (y<x))=w at *;unfold pq;dsimp only;rw[J,va hi,a!,pa U,O!]
  grind) (λy=>by grind[pq]) rfl
 rw[O!]at e1;rw[e1,a!];dsimp only;have h0:=Ξ (λy=>s6 (y<x)) l;rw[Od o4,a!];have e2:=Bz (step:=oq l x) (l:=l) rfl (λl=>l.filter λy=>s6 (x<y)) ((l.filter λy=>s6 (y<x))++[x]) (λi hi=>by
  have a:=hf (λy=>s6 (x<y)) i;rw[Fb hi,δ];have ha:=Od (b:=8) (show((((l.filter λy=>s6 (y<x))++[x])++((l.take i).filter λy=>s6 (x<y))).length + [l[i]].length)*8<=140737488355328 by grind);generalize ((l.take i).filter λy=>s6 (x<y))=w at *;generalize ((l.filter λy=>s6 (y<x))++[x])=w0 at *;unfold oq;dsimp only;rw[J,va hi,a!,pa U]
  grind) (λy=>by grind[oq]) rfl
 rw[e2];refine⟨_,rfl,?_,λy=>?_⟩
 .have k:∀l:List Int,(l.filter λy=>s6 (y<x)).length+(l.filter λy=>s6 (x<y)).length<=l.length:=by
   intro l
   induction l with
   |nil=>simp
   |cons y l ih=>
    grind
  grind
 grind
theorem HH{l:List ia}(hl:l.length<=65536):∃r,xo l=M r/\r.length<=2*l.length/\∀y,y∈r↔y∈t? l:=by
 unfold xo;obtain⟨b,h1,h2,h3⟩:=pW (step:=Dj l) (λj s=>s.2=(j:Int)/\s.1.length<=2*j/\∀y,y∈s.1↔y∈t? (l.take j)) l.length (λb=>b.length<=2*l.length/\∀y,y∈b↔y∈t? l) (λj s hj ⟨a,c,d⟩=>by
  obtain⟨s,jj⟩:=s;dsimp only at a c d;subst a;unfold Dj;dsimp only;rw[J,va hj,a!,GK,a!,pa U];have hm:∀y,y∈t? (l.take (j+1))↔y∈t? (l.take j)\/(VR l[j]=a38/\(y=l[j].n\/y=l[j].To)):=λy=>by
   grind[t?,Fb,fO]
  cases hb:VR l[j]
  .exact⟨_,by rw[p6 o0];rfl,rfl,o4,λy=>l5⟩
  .obtain⟨f,a1,a2,a3⟩:=xF (l:=s) (x:=l[j].n) U;obtain⟨r2,e,b2,b3⟩:=xF (l:=f) (x:=l[j].To) U;refine⟨_,by rw[J rfl,a1,a!,e,a!,a!],rfl,o4,λy=>?_⟩
   grind) (λs ⟨a,c,d⟩=>by
  simp_all[Dj]) l.length 0 ([],0) U ⟨rfl,o0,by simp[t?]⟩
 simp_all
theorem jP(hq:q.length<=1048576):mw q=M (q.filter Nj):=by
 unfold mw;have e2:=Bz (step:=uq q) (l:=q) rfl (λl=>l.filter Nj) [] (λi hi=>by
  have h1:=Ξ Nj (q.take i);have h2:(q.take i).length<=q.length:=o4
  rw[Fb hi,δ];have ha:=Od (b:=8) (show(((q.take i).filter Nj).length + [q[i]].length)*8<=140737488355328 by grind);generalize ((q.take i).filter Nj)=w at *;unfold uq;dsimp only;rw[J,va hi,a!,pa U]
  grind[Nj]) (λx=>by grind[uq]) rfl
 simp_all
theorem EG{l:cb}(h:E' l):∃r,Ue l=M r/\r.length<=65536/\∀y,y∈r↔y∈(Yd (t? (oz l.Tables++mz l.e))).filter Nj:=by
 have hnt:=h.nt;have hns:=h.ns;have h1:=GA h.t;have h2:=BA h.s;unfold Ue;rw[TW h,a!];dsimp only;rw[SW h U,a!];dsimp only;obtain⟨r,a1,a2,a3⟩:=HH (l:=oz l.Tables++mz l.e) o4;rw[Τ]at a2;rw[a1,a!,jP U];have:=Ξ Nj r;refine⟨_,rfl,U,λy=>?_⟩
 grind[Of]
theorem AF(hl:l.length<=1048576):∃r,Pm l x=M r/\r.length<=l.length+1/\∀y,y∈r↔y∈l\/y=x:=by
 unfold Pm;obtain⟨⟨b,d⟩,c,h2,h⟩:=pW (step:=Cq l x) (λj s=>s.2.2=(j:Int)/\s.1.length<=j+(if s.2.1=a38 then 1 else 0)/\∀y,y∈s.1↔y∈l.take j\/(s.2.1=a38/\y=x)) l.length (λb=>b.1.length<=l.length+(if b.2=a38 then 1 else 0)/\∀y,y∈b.1↔y∈l\/(b.2=a38/\y=x)) (λj s hj ⟨e,f,g⟩=>by
  obtain⟨s,d,jj⟩:=s;dsimp only at e f g;subst e;have hs:s.length<=j+1:=o4
  unfold Cq;dsimp only;rw[J,va hj,pa U];have ha1:=Od (b:=8) (l:=s) (r:=[x]) o4;have a:=Od (b:=8) (l:=s) (r:=[l[j]]) o4;have ha3:=Od (b:=8) (l:=s++[x]) (r:=[l[j]]) o4;have ht:∀y,y∈l.take (j+1)↔y∈l.take j\/y=l[j]:=λy=>by grind[Fb]
  cases d with
  |true=>
   refine⟨_,by simp[a];rfl,o0,l5,λy=>?_⟩
   grind
  |false=>
   simp at f g;by_cases c:x<=l[j]
   .by_cases h2:x<l[j]
    .refine⟨(s++[x]++[l[j]],a38,((j+1:Nat):Int)),l5,rfl,l5,λy=>?_⟩
     grind
    .have hx:x=l[j]:=U
     simp_all
   .refine⟨_,by simp[c,a];rfl,o0,l5,λy=>?_⟩
    simp_all) (λs ⟨e,f,g⟩=>by
  simp_all[Cq]) l.length 0 ([],a39,0) U ⟨rfl,o0,o0⟩
 rw[c,a!];dsimp only at h2 h⊢
 cases d with
 |true=>simp_all
 |false=>
  simp at h2 h;rw[J rfl,Od o4,a!]
  simp_all
theorem FG{l:List ka}(t1:Int) (hl:l.length<=65536):∃r,We l t1=M r/\r.length<=2*l.length/\∀y,y∈r↔y∈(Yd (t? (cI t1 l))).filter Nj:=by
 unfold We;obtain⟨b,h,h2,h3⟩:=pW (step:=Ni l t1) (λj s=>s.2=(j:Int)/\s.1.length<=2*j/\∀y,y∈s.1↔y∈t? (cI t1 (l.take j))/\Nj y=a38) l.length (λb=>b.length<=2*l.length/\∀y,y∈b↔y∈t? (cI t1 l)/\Nj y=a38) (λj s hj ⟨c,f,g⟩=>by
  obtain⟨s,jj⟩:=s;dsimp only at c f g;subst c;unfold Ni;dsimp only;rw[J,va hj,pa U];simp only[a!,WC];have hm:∀y,y∈t? (cI t1 (l.take (j+1)))↔y∈t? (cI t1 (l.take j))\/(T? t1 l[j]=a38/\(y=l[j].ab.n\/y=l[j].ab.To)):=λy=>by
   grind[T?,cI,t?,Fb,fO]
  cases hk:T? t1 l[j]with
  |false=>
   refine⟨(s,((j+1:Nat):Int)),?_,rfl,o4,λy=>l5⟩
   grind[T?]
  |true=>
   have hk':=hk;unfold T? at hk;simp at hk;obtain⟨hr,hn⟩:=hk;have a:=hn;unfold VR at hn;simp at hn;rw[J];simp only[a,Φ,a!,t!,u4];obtain⟨r1,a1,a2,a3⟩:=AF (l:=s) (x:=l[j].ab.n) U;have hd1:∀y,y=l[j].ab.n->(Nj y=a38↔1<=l[j].ab.n):=λy i=>by grind[Nj]
   have hd2:∀y,y=l[j].ab.To->(Nj y=a38↔l[j].ab.To<=109572):=λy i=>by grind[Nj]
   obtain⟨q,q1,q2,q3⟩:∃q,(if 1<=l[j].ab.n then(Pm s l[j].ab.n).bind λd=>M d else M s)=M q/\q.length<=s.length+1/\∀y,y∈q↔y∈s\/(y=l[j].ab.n/\Nj y=a38):=by
    grind
   rw[q1,a!];obtain⟨r2,b1,b2,b3⟩:=AF (l:=q) (x:=l[j].ab.To) U;obtain⟨p,k,p2,p3⟩:∃p,(if l[j].ab.To<=109572 then(Pm q l[j].ab.To).bind λe=>M e else M q)=M p/\p.length<=q.length+1/\∀y,y∈p↔y∈q\/(y=l[j].ab.To/\Nj y=a38):=by
    grind
   rw[k,a!]
   grind) (λs ⟨c,f,g⟩=>by
  simp_all[Ni]) l.length 0 ([],0) U ⟨rfl,o0,by simp[t?,cI]⟩
 rw[h];refine⟨b,rfl,h2,λy=>?_⟩
 grind[Of]
theorem OR{σ β ρ:Type}{step:σ->Option (Ex σ β ρ)}(I:σ->Prop) (a:σ->Nat) (Q:β->Prop) (h:∀s,I s->(∃s',step s=M (.go s')/\I s'/\a s'<a s)\/∃b,step s=M (.brk b)/\Q b) :
 ∀(n:Nat) (s:σ),a s<=n->I s->∃b,ca step s=M (.inl b)/\Q b
 |0,s,hn,hi=>by
  grind[Qb]
 |n+1,s,hn,hi=>by
  rcases h s hi with⟨s',c,h2,h3⟩|⟨b,c,h2⟩
  .obtain⟨b,h4,h5⟩:=OR I a Q h n s' U h2
   grind[Ke]
  grind[Qb]
theorem wu{n:Int}(h1:0<=n) (h2:n<9223372036854775808):aa .u64 n=n:=by
 grind[aa]
theorem mid{i:Nat}(h:i+j<4611686018427387904):aa b! (Int.fdiv (aa .u64 (aa b! ((i:Int)+(j:Int)))) 2)=(((i+j) / 2:Nat):Int):=by
 grind[f?,wu]
theorem GY(x y:Int):B! x y=M (s6 (x<y)):=by
 grind[B!,A?]
theorem af0{t:Int}(hq:q.Pairwise (·<·)) (hl:q.length<=1048576):∃(k:Nat) (b:Bool),qc q t=M ((k:Int),b)/\k<=q.length/\(∀i (hi:i<q.length),i<k->q[i]<t)/\∀i (hi:i<q.length),k<=i->t<=q[i]:=by
 have f:=Pab.1 hq;unfold qc;obtain⟨b,g,k,rfl,h2,a,c⟩:=OR (step:=De q t) (λs=>∃i j:Nat,s=((i:Int),(j:Int))/\i<=j/\j<=q.length/\(∀p (f:p<q.length),p<i->q[p]<t)/\∀p (f:p<q.length),j<=p->t<=q[p]) (λs=>(s.2-s.1).toNat) (λb=>∃k:Nat,b=(k:Int)/\k<=q.length/\(∀i (hi:i<q.length),i<k->q[i]<t)/\∀i (hi:i<q.length),k<=i->t<=q[i]) (by
  rintro s ⟨i,j,rfl,a1,a2,a3,a4⟩;unfold De;dsimp only;by_cases hij:i<j
  .left;rw[J,mid U,va (show(i+j) / 2<q.length by omega),a!,GY,a!];by_cases hx:q[(i+j) / 2]' U<t
   .refine⟨_,by rw[J l5,pa U],⟨(i+j) / 2+1,j,rfl,U,a2,λp d e=>?_,a4⟩,U⟩
    grind
   .refine⟨_,o4,⟨i,(i+j) / 2,rfl,U,U,a3,λp d e=>?_⟩,U⟩
    grind
  grind) q.length (0,(q.length:Int)) o0 ⟨0,q.length,rfl,U,U,U,U⟩
 rw[g,a!];dsimp only;unfold Wo;by_cases hk:k<q.length
 .rw[J,va hk,a!];by_cases he:q[k]=t
  .exact⟨k,a38,o4,h2,a,c⟩
  .exact⟨k,a39,o4,h2,a,c⟩
 .exact⟨k,a39,o4,h2,a,c⟩
def Fy(to:Int):Int->List Int->List ia
 |a,[]=>[⟨a,to⟩]
 |a,x::l=>⟨a,x⟩::Fy to x l
theorem CK{to:Int}:∀{a:Int}{l:List Int},(Fy to a l).length=l.length+1
 |_,[]=>rfl
 |_,x::l=>by simp[Fy,CK (a:=x) (l:=l)]
def C'(r:ia) (x:Int):Bool:=s6 (r.n<x)&&s6 (x<r.To)
theorem DE{r:ia}(hq:q.Pairwise (·<·)) (hl:q.length<=65536) (hr:0<=r.n/\r.n<r.To/\r.To<=1000000):tp r q=M (Fy r.To r.n (q.filter (C' r))):=by
 unfold tp;rw[f? U U];obtain⟨k,b,e,h2,h3,h4⟩:=af0 (t:=r.n+1) hq U;rw[e,a!];dsimp only;have hp:=Pab.1 hq;have hf:q.filter (C' r)=(q.drop k).filter λx=>s6 (x<r.To):=by
  conv=>lhs;rw[←List.take_append_drop k q]
  rw[δ];have e1:(q.take k).filter (C' r)=[]:=by
   rw[Mac];intro x hx;obtain⟨i,hi,rfl⟩:=H' hx
   grind[C']
  rw[e1,O!];refine List.filter_congr λx hx=>?_;obtain⟨i,hi,rfl⟩:=H' hx
  grind[C']
 rw[hf];obtain⟨⟨s2,h⟩,g1,g2,g3⟩:=OR (step:=Gu r q) (λs=>∃j:Nat,s.2.2=(j:Int)/\j<=q.length/\s.2.1.length<=j/\Fy r.To r.n ((q.drop k).filter λx=>s6 (x<r.To))=s.2.1++Fy r.To s.1 ((q.drop j).filter λx=>s6 (x<r.To))) (λs=>((q.length:Int)-s.2.2).toNat) (λb=>b.2.length<=q.length/\Fy r.To r.n ((q.drop k).filter λx=>s6 (x<r.To))=b.2++[⟨b.1,r.To⟩]) (by
  rintro⟨s2,h,s4⟩ ⟨j,d,f,g,c⟩;dsimp only at d f g c;subst d;unfold Gu;dsimp only;by_cases hj:j<q.length
  .rw[J,va hj,a!,a!];have hd:q.drop j=q[j]::q.drop (j+1):=lab hj;by_cases hx:q[j]<r.To
   .left;refine⟨_,by rw[J o4,a!,Od o4,a!,pa U],⟨j+1,rfl,U,o4,?_⟩,o4⟩
    grind[Fy]
   .right;refine⟨_,by rw[p6 o4],o4,?_⟩;dsimp only;have:(q.drop j).filter (λx=>s6 (x<r.To))=[]:=by
     rw[Mac];intro x a;obtain⟨i,hi,rfl⟩:=H' a
     grind
    rw[c,this];rfl
  .right;refine⟨_,by rw[p6];rfl,o4,?_⟩;dsimp only;rw[c,List.drop_eq_nil_of_le U];rfl) q.length (r.n,[],(k:Int)) o0 ⟨k,rfl,h2,o0,o0⟩
 grind[Od]
theorem KN(x:Int) (hl:l.length<=1048576):Po l x=M (l.contains x):=by
 unfold Po;have h:=Gb (step:=Um l x) (x0:=0) (λi=>(i:Int)) (λi=>if(l[i]?.any λy=>y==x)=a38 then M a38 else s5) l.length () (λi hi _=>by
  unfold Um;rw[J,va hi,a!,pa U,n! hi]
  grind[mE]) (λ_=>by grind[Um])
 rw[h];have h2:=Wv (l:=l) (q:=λy=>y==x) (g:=λ_=>a38);have b:l.contains x=l.any λy=>y==x:=by
  grind
 rw[b,←h2]
 cases hf:ff (λi=>if(l[i]?.any λy=>y==x)=a38 then M a38 else s5) l.length with
 |none=>rfl
 |some v=>
  obtain⟨j,-,a,-⟩:=Qa.1 hf;split at a
  .injection a with a;subst a;rfl
  simp_all
theorem rP{a b:List Int}{r:ia}(hq:q.Pairwise (·<·)) (ha:a.length<=1048576) (hb:b.length<=1048576) (hm:∀x,x∈q↔x∈a\/x∈b) (hr:0<=r.n/\r.n<r.To/\r.To<=1000000):Bw r a b=M (Fy r.To r.n (q.filter (C' r))):=by
 unfold Bw;rw[f? U U];obtain⟨⟨s2,s3⟩,g1,g2,g3⟩:=OR (step:=Nu r a b) (λs=>r.n<s.2.2/\s.2.2<=r.To/\s.1.length<=(s.2.2-r.n).toNat/\Fy r.To r.n (q.filter (C' r))=s.1++Fy r.To s.2.1 (q.filter λx=>s6 (s.2.2<=x)&&s6 (x<r.To))) (λs=>(r.To-s.2.2).toNat) (λc=>c.1.length<=1000000/\Fy r.To r.n (q.filter (C' r))=c.1++[⟨c.2,r.To⟩]) (by
  rintro⟨s1,s2,d⟩ ⟨i,j,k,g⟩;dsimp only at i j k g;unfold Nu;dsimp only;by_cases hd:d<r.To
  .left;rw[J hd,KN d ha,KN d hb,f? (n:=d+1) U U];have hc:(b? (if a.contains d=a39 then M (b.contains d)else M a38) λh=>(if h=a38 then(app 16 s1 [ia.mk s2 d]).bind λe=>M (e,d)else M (s1,s2)))=if d∈q then M (s1++[⟨s2,d⟩],d)else M (s1,s2):=by
    grind[Od]
   have hsp:(q.filter λx=>s6 (d<=x)&&s6 (x<r.To))=if d∈q then d::(q.filter λx=>s6 (d+1<=x)&&s6 (x<r.To))else q.filter λx=>s6 (d+1<=x)&&s6 (x<r.To):=by
    clear g hm hc
    induction q with
    |nil=>simp
    |cons x l ih=>
     have hq':=List.pairwise_cons.1 hq
     grind
   simp only[a!];rw[show(b? (if a.contains d=a39 then M (b.contains d)else M a38) λh=>(if h=a38 then(app 16 s1 [ia.mk s2 d]).bind λe=>M (e,d)else M (s1,s2)))=_ from hc];by_cases f:d∈q
   .rw[J f,a!];refine⟨_,rfl,⟨o4,o4,o4,?_⟩,o4⟩
    simp_all[Fy]
   .rw[p6 f,a!]
    grind
  .right;refine⟨_,by rw[p6 hd],o4,?_⟩;dsimp only;have:(q.filter λx=>s6 (d<=x)&&s6 (x<r.To))=[]:=by
    grind[Mac]
   rw[g,this];rfl) 1000000 ([],r.n,r.n+1) o4 ⟨o4,o4,o0,by
    dsimp only;rw[O!];congr 1⟩
 grind[Od]
theorem nV{a b:List Int}(ha:a.length<=1048576) (hb:b.length<=1048576):ki [a,b]=M (a++b):=by
 unfold ki;have e1:ca (qi [a,b]) (0,0)=M (.inl ((a.length:Int)+b.length)):=by
  rw[Ke (s':=((a.length:Int),1)),Ke (s':=((a.length:Int)+b.length,2)),Qb (b:=(a.length:Int)+b.length)]
  all_goals grind[qi,c!,f?]
 rw[e1,a!];dsimp only;have e2:ji ((a.length:Int)+b.length)=M []:=by
  unfold ji;rw[p6];have w0:aa b! (0-0)=0:=f? U U;rw[w0,Int.sub_zero,f? U U]
  grind[mka,Jw]
 rw[e2,a!];have e3:ca (oi [a,b]) ([],0)=M (.inl (a++b)):=by
  rw[Ke (s':=(a,1)),Ke (s':=(a++b,2)),Qb (b:=a++b)]
  all_goals grind[oi,c!,Od,f?]
 simp_all
def cs5(l:cb):Prop:=∀t∈l.Tables,t.Rows.length<=1125899906842624
theorem WI{σ1 σ2 β1 β2 ρ1 ρ2:Type}{s1:σ1->Option (Ex σ1 β1 ρ1)}{s2:σ2->Option (Ex σ2 β2 ρ2)}(I:σ1->σ2->Prop) (a:σ1->Nat) (QB:β1->β2->Prop) (QR:ρ1->ρ2->Prop)
 (h:∀x y,I x y->(∃d e,s1 x=M (.go d)/\s2 y=M (.go e)/\I d e/\a d<a x)\/(∃b c,s1 x=M (.brk b)/\s2 y=M (.brk c)/\QB b c)\/∃b c,s1 x=M (.ret b)/\s2 y=M (.ret c)/\QR b c) :
 ∀(n:Nat) x y,a x<=n->I x y->(∃b c,ca s1 x=M (.inl b)/\ca s2 y=M (.inl c)/\QB b c)\/∃b c,ca s1 x=M (.inr b)/\ca s2 y=M (.inr c)/\QR b c:=by
 intro n
 induction n with
 |zero=>
  grind[Qb,Ct]
 |succ n ih=>
  grind[Ke,Qb,Ct]
def MT(date key:Int) (r:te):Bool:=aB r.ab date&&(s6 (r.Lo<=key)&&s6 (key<r.Hi))
theorem DJ(r:te) (date key:Int):Wg r date key=M (MT date key r):=by
 grind[Wg,MT,Mf]
theorem yM(r:te) (date key:Int):uu r date key=M (MT date key r):=by
 grind[uu,MT,Ft]
def IC(t:po) (date key:Int):Int×Bool:=
 match ff (λi=>if(t.Rows[i]?.any (MT date key))=a38 then M ((i:Int),a38)else s5) t.Rows.length with
 |some v=>v
 |none=>(0,a39)
theorem MF{t:po}(hl:t.Rows.length<=1048576) (date key:Int):Kw t date key=M (IC t date key):=by
 have a:ca (Zb t.Rows (λy=>Wg y date key)) 0=M (Rb () (ff (λi=>if(t.Rows[i]?.any (MT date key))=a38 then M ((i:Int),a38)else s5) t.Rows.length)):=
  Gb (λi=>(i:Int)) _ t.Rows.length () (λi hi _=>by
   unfold Zb;rw[J,va hi,n! hi]
   grind[mE,DJ,pa]) (λ_=>by grind[Zb])
 unfold Kw Bc IC;rw[a,a!];cases h:ff (λi=>if(t.Rows[i]?.any (MT date key))=a38 then M ((i:Int),a38)else s5) t.Rows.length<;>rfl
theorem iP{t:po}(hl:t.Rows.length<=1048576) (date key:Int):Ht t date key=M (IC t date key):=by
 have a:ca (sq t date key) 0=M (Rb () (ff (λi=>if(t.Rows[i]?.any (MT date key))=a38 then M ((i:Int),a38)else s5) t.Rows.length)):=
  Gb (λi=>(i:Int)) _ t.Rows.length () (λi hi _=>by
   unfold sq;rw[J,va hi,n! hi]
   grind[mE,yM,pa]) (λ_=>by grind[sq])
 unfold Ht IC;rw[a,a!];cases h:ff (λi=>if(t.Rows[i]?.any (MT date key))=a38 then M ((i:Int),a38)else s5) t.Rows.length<;>rfl
theorem oW{t:po}{date key:Int}(h:(IC t date key).2=a38):∃i:Nat,(IC t date key).1=(i:Int)/\i<t.Rows.length:=by
 unfold IC at h⊢;split
 .rename_i v hv;obtain⟨i,h1,h2,-⟩:=Qa.1 hv
  grind
 simp_all
def JN(len n:Nat):Option (Nat×Nat):=if 1000000000000000<len*n / 1000000 then s5 else M (len*n / 1000000,len*n % 1000000)
def YS(neg:Bool):Option (Nat×Nat)->Int×Int×Bool
 |none=>(0,0,a39)
 |some (q,r)=>(gH neg q,gH neg r,a38)
theorem Zy{n:Int}(a:len<=1000000000000000) (h2:-1000000000<=n/\n<=1000000000):Al len n=M (YS (s6 (n<0)) (JN len n.natAbs)):=by
 unfold Al;have e:(if n<0 then M (aa .u64 (-(aa .u64 n)))else M (aa .u64 n))=M (n.natAbs:Int):=by
  have:=aj (n:=n) U U;exact this
 rw[e,a!,wuN (n:=(len:Int)) U U,M4 U U,a!];have b:len*n.natAbs<=1000000000000000*1000000000:=dac a U;unfold JN;generalize len*n.natAbs=p at b⊢;dsimp only;rw[p6,show(1000000:Int)=((1000000:Nat):Int)from rfl,ar4 U U,a!];dsimp only;by_cases hq:1000000000000000<p / 1000000
 .rw[J,J hq];rfl
 .rw[p6,p6 hq,f? (n:=((p / 1000000:Nat):Int)) U U,f? (n:=((p % 1000000:Nat):Int)) U U];by_cases hn:n<0
  .rw[J hn,f? U U,f? U U,s7 hn];rfl
  .rw[p6 hn,w2 hn];rfl
theorem zF{n:Int}(h0:0<len) (h1:len<=1000000000000000) (h2:-1000000000<=n/\n<=1000000000):Mk len n=M (YS (s6 (n<0)) (JN len n.natAbs)):=by
 unfold Mk;have e:(if n<0 then M (aa .u64 ((aa .u64 (aa b! (-(aa b! (n+1)))))+1))else M (aa .u64 n))=M (n.natAbs:Int):=by
  by_cases hn:n<0
  .rw[J hn,f? (n:=n+1) U U,f? U U,wuN (n:=-(n+1)) U U,wuN U U];grind
  .rw[p6 hn,wuN U U];grind
 rw[e,a!];obtain⟨m,hm⟩:∃m,n.natAbs=m:=⟨_,rfl⟩;rw[hm];have hm2:m<=1000000000:=U
 have e1:aa b! (aa .u64 (s? (m:Int) 1000000))=((m / 1000000:Nat):Int):=by
  grind[wuN,f?]
 have e2:aa b! (v? (m:Int) 1000000)=((m % 1000000:Nat):Int):=by
  grind[f?]
 have e3:aa b! (s? (len:Int) 1000000)=((len / 1000000:Nat):Int):=by
  grind[f?]
 have e4:v? (len:Int) 1000000=((len % 1000000:Nat):Int):=by
  grind
 rw[e1,e2,e3,e4];have c:len*m=1000000*(len*(m / 1000000)+len / 1000000*(m % 1000000))+len % 1000000*(m % 1000000):=by
  grind[aac]
 have hq:len*m / 1000000=len*(m / 1000000)+len / 1000000*(m % 1000000)+len % 1000000*(m % 1000000) / 1000000:=by
  omega
 have hr:len*m % 1000000=len % 1000000*(m % 1000000) % 1000000:=by
  omega
 have b1:len / 1000000*(m % 1000000)<=1000000000*1000000:=dac U U;have b2:len % 1000000*(m % 1000000)<=1000000*1000000:=dac U U;unfold JN;rw[hq,hr];have a:∀{α:Type} (k:Bool->Option α),(b? (α:=Bool) (if 0<((m / 1000000:Nat):Int)then(quo b! 1000000000000000 ((m / 1000000:Nat):Int)).bind λd=>M (s6 (d<(len:Int)))else M a39) k)=k (s6 (0<m / 1000000/\1000000000000000 / (m / 1000000)<len)):=by
  intro α k;by_cases h:0<m / 1000000
  .rw[J,show(1000000000000000:Int)=((1000000000000000:Nat):Int)from rfl,YT h U,a!,a!];congr 1
   grind
  grind
 rw[a];clear c hq hr a;by_cases ho:0<m / 1000000/\1000000000000000 / (m / 1000000)<len
 .rw[J l5,if_pos]
  .rfl
  .have h3:1000000000000000<len*(m / 1000000):=(wac ho.1).1 ho.2;omega
 .rw[p6 l5];have b3:len*(m / 1000000)<=1000000000000000:=by
   rcases Vad (m / 1000000)with h|h
   .grind
   .have b:len<=1000000000000000 / (m / 1000000):=by
     omega
    exact N? (Β _ b) (uad _ _)
  rw[←Mad,←Mad,←Mad];generalize len*(m / 1000000)=A at *;generalize len / 1000000*(m % 1000000)=B at *;generalize len % 1000000*(m % 1000000)=C at *;have e5:aa b! (s? (aa b! (C:Int)) 1000000)=((C / 1000000:Nat):Int):=by
   grind[f?]
  have e6:v? (aa b! (C:Int)) 1000000=((C % 1000000:Nat):Int):=by
   grind[f?]
  rw[e5,e6,f? (n:=(A:Int)) U U,f? (n:=(B:Int)) U U,f? (n:=(A:Int)+B) U U,f? (n:=(A:Int)+B+((C / 1000000:Nat):Int)) U U];by_cases hQ:1000000000000000<A+B+C / 1000000
  .rw[J,J hQ];rfl
  .rw[p6,p6 hQ];by_cases hn:n<0
   .rw[J hn,f? U U,f? U U,s7 hn];rfl
   .rw[p6 hn,w2 hn];rfl
theorem IN{neg:Bool}{n:Nat}:-1000000000000000<=(YS neg (JN len n)).1/\(YS neg (JN len n)).1<=1000000000000000/\-1000000<=(YS neg (JN len n)).2.1/\(YS neg (JN len n)).2.1<=1000000:=by
 grind[JN,YS,gH]
def rsS(w m mode:Int):Int:=aN mode ((w*1000000+m) / 1000000) ((w*1000000+m) % 1000000) 1000000
theorem AM(hm:0<=mode/\mode<=5) (hw:-2000000000000000000<=w/\w<=2000000000000000000) (hr:-1000000000000<=m/\m<=1000000000000):vu w m mode=M (rsS w m mode):=by
 obtain⟨T,u⟩:∃T,w*1000000+m=T:=⟨_,rfl⟩;have A:∃b,ca Bo (w,m)=M (.inl b)/\(b.1*1000000+b.2=T/\0<=b.2/\b.2<=1000000000000/\-3000000000000000000<=b.1/\b.1<=3000000000000000000):=by
  refine OR (step:=Bo) (λs=>s.1*1000000+s.2=T/\-1000000000000<=s.2/\s.2<=1000000000000/\-3000000000000000000<=s.1/\s.1<=2000000000000000000) (λs=>(-s.2).toNat) _ ?_ ((-m).toNat) (w,m) (x? _) ⟨u,hr.1,hr.2,U,hw.2⟩;rintro⟨a,b⟩ ⟨k,l,o,p,t⟩;dsimp only at k l o p t;unfold Bo;dsimp only;by_cases h:b<0
  .left;exact⟨_,by rw[J h,f? U U,f? U U],U,U⟩
  .right;exact⟨_,by rw[p6 h],U⟩
 obtain⟨⟨a,b⟩,q1,x,y,z,H,I⟩:=A;dsimp only at x y z H I;have B:∃c,ca Ao (a,b)=M (.inl c)/\(c.1*1000000+c.2=T/\0<=c.2/\c.2<1000000/\-4000000000000000000<=c.1/\c.1<=4000000000000000000):=by
  refine OR (step:=Ao) (λs=>s.1*1000000+s.2=T/\0<=s.2/\s.2<=1000000000000/\-4000000000000000000<=s.1/\s.1<=4000000000000000000) (λs=>s.2.toNat) _ ?_ (b.toNat) (a,b) (x? _) ⟨x,y,z,U,U⟩;rintro⟨a,b⟩ ⟨k,l,o,p,t⟩;dsimp only at k l o p t;unfold Ao;dsimp only;by_cases h:1000000<=b
  .left;exact⟨_,by rw[J h,f? U U,f? U U],U,U⟩
  simp_all[if_neg]
 obtain⟨⟨c,d⟩,C,D,v,E,F,G⟩:=B;dsimp only at D v E F G;unfold vu rsS;rw[q1,a!];dsimp only;rw[C,a!];dsimp only;rw[u];have e1:T / 1000000=c:=U
 have e2:T % 1000000=d:=U
 have j:gH (s6 (T<0)) (au (s6 (T<0)) mode (T.natAbs / 1000000) (T.natAbs % 1000000) 1000000)=aN mode (T / 1000000) (T % 1000000) 1000000:=wA T 1000000 mode p5 (s6 (T<0)) (.inr rfl) hm;rw[←j];by_cases hc:0<=c
 .rw[J hc];have f:¬T<0:=U
  obtain⟨e,rfl⟩:=V' hc;obtain⟨d',rfl⟩:=V' v;have:=kq (q:=e) (r:=d') (d:=1000000) a39 mode U U U
  grind
 .rw[p6 hc];have f:T<0:=U
  rw[show s6 (T<0)=a38 from by simp_all];by_cases hd:d=0
  .rw[J hd];congr 1;have:T.natAbs % 1000000=0:=U
   rw[this];have hn:au a38 mode (T.natAbs / 1000000) 0 1000000=T.natAbs / 1000000:=p6 (by unfold dN;omega);rw[hn];unfold gH
   grind
  .rw[p6 hd,f? (n:=-c) U U,f? (n:=-c-1) U U,f? (n:=1000000-d) U U];obtain⟨e,g⟩:=V' (show 0<=-c-1 by omega);obtain⟨d',i⟩:=V' (show 0<=1000000-d by omega);rw[g,i];have:=kq (q:=e) (r:=d') (d:=1000000) a38 mode U U U
   grind
theorem ah4{q r e:Int}(he:e % 2=0) (h:(0<=q+e)↔(0<=q)):aN mode (q+e) r 1000000=aN mode q r 1000000+e:=by
 have:l6 mode (q+e) r 1000000↔l6 mode q r 1000000:=by unfold l6;omega
 grind[aN]
theorem fD(hm:0<=mode/\mode<=5) (hw:-2000000000000000000<=w/\w<=2000000000000000000) (hr:-1000000000000<=m/\m<=1000000000000) :
 Us w m mode=M (if 1000000000000000<rsS w m mode\/rsS w m mode < -1000000000000000 then(0,3)else(rsS w m mode,0)):=by
 have a:=qae m 1000000;have hm1:=Uad m (show(0:Int)<1000000 by omega);have hm2:-1000000<v? m 1000000:=by
  grind
 unfold Us;rw[f? (n:=s? m 1000000) U U,f? (n:=w+s? m 1000000) U U];have f:w*1000000+m=(w+s? m 1000000)*1000000+v? m 1000000:=U
 unfold rsS;rw[f];have hW:-3000000000000000000<=w+s? m 1000000/\w+s? m 1000000<=3000000000000000000:=U
 generalize w+s? m 1000000=W at *;generalize v? m 1000000=j6 at *;clear a f;have b:=FZ mode ((W*1000000+j6) / 1000000) ((W*1000000+j6) % 1000000) 1000000;by_cases hb:W < -2000000000000000\/2000000000000000<W
 .grind
 .rw[J,a!,p6 l5];have d:v? W 2=if 0<=W then W % 2 else -(-W % 2):=by
   grind
  obtain⟨P,hP,hPe⟩:∃P,(if 1<W then M (aa b! ((v? W 2)+2))else if W<(-1)then M (aa b! ((v? W 2)-2))else M (v? W 2))=M P/\((1<W/\P=W % 2+2)\/(W < -1/\P = -(-W % 2)-2)\/(-1<=W/\W<=1/\P=W)):=by
   rw[d];by_cases e:1<W
   .rw[J e,J,f? U U];simp_all
   .rw[p6 e];by_cases h2:W < -1
    .rw[J h2,p6,f? U U];simp_all
    .rw[p6 h2];grind
  rw[hP,a!];have hPb:-4<=P/\P<=4:=U
  rw[f? (n:=P*1000000) U U,f? (n:=P*1000000+j6) U U,Kh];unfold tR;rw[p6 (v!.2 hm),p6 p5,p6];obtain⟨Z,g⟩:∃Z,P*1000000+j6=Z:=⟨_,rfl⟩;rw[g];have h:gH (!(s6 (Z<0)==s6 ((1000000:Int)<0))) (au (!(s6 (Z<0)==s6 ((1000000:Int)<0))) mode (Z.natAbs / 1000000) (Z.natAbs % 1000000) 1000000)=aN mode (Z / 1000000) (Z % 1000000) 1000000:=wA Z 1000000 mode p5 (!(s6 (Z<0)==s6 ((1000000:Int)<0))) (.inr o0) hm;simp only[a!];rw[show(1000000:Int).natAbs=1000000 from rfl,h,p6 o0];have c:aN mode ((W*1000000+j6) / 1000000) ((W*1000000+j6) % 1000000) 1000000=aN mode (Z / 1000000) (Z % 1000000) 1000000+(W-P):=by
   have e1:(W*1000000+j6) / 1000000=Z / 1000000+(W-P):=U
   have e2:(W*1000000+j6) % 1000000=Z % 1000000:=U
   rw[e1,e2];exact ah4 U U
  have hrd2:=FZ mode (Z / 1000000) (Z % 1000000) 1000000;rw[c]at b⊢;generalize aN mode (Z / 1000000) (Z % 1000000) 1000000=R at *;rw[f? (n:=W-P) U U,f? (n:=W-P+R) U U,Int.add_comm (W-P) R]
  grind
structure ι (t:po):Prop where
 len:t.Rows.length<=150
 n:∀r∈t.Rows,-1000000000<=r.N/\r.N<=1000000000
variable {t:po}
theorem lQ(ht:t.Value.a=4->ι t) (date c mode:Int):∃p,xl t date c mode=M p/\As t date c mode=M p/\(p.2=0->-1000000000000000<=p.1/\p.1<=1000000000000000):=by
 unfold xl As;rw[I4,Jz,a!];by_cases hm:¬(0<=mode/\mode<=5)
 .simp_all
 have hm:=Xab.1 hm;rw[s7 hm,w2 (p:=¬(0<=mode/\mode<=5)) (λh=>h hm),p6 (show¬(a39=a38)from λh=>nomatch h),p6 (show¬(a38=a39)from λh=>nomatch h)];have e:∀{α:Type} (k:Bool->Option α),(b? (α:=Bool) (if t.af.a=3/\t.af.g=0 then M (!((t.Value.a==4)&&(t.Value.g==0)))else M a38) k)=k (!s6 ((t.af.a=3/\t.af.g=0)/\(t.Value.a=4/\t.Value.g=0))):=by
  grind
 rw[e,e];by_cases hk:¬((t.af.a=3/\t.af.g=0)/\(t.Value.a=4/\t.Value.g=0))
 .rw[w2 hk,J (show(!false)=a38 from rfl),J (show(!false)=a38 from rfl)];simp
 have hk:=Xab.1 hk;rw[s7 hk,p6 (show¬((!true)=a38)from λh=>nomatch h),p6 (show¬((!true)=a38)from λh=>nomatch h),tf U U,a!];have ht:=ht hk.2.1;by_cases hc:1000000000000000<c\/c < -1000000000000000
 .have h2:(if¬c < -1000000000000000 then M (s6 (1000000000000000<c))else M a38)=M a38:=by
   grind
  simp_all
 .rw[J,a!,p6 l5,p6 l5];have g:=WI (s1:=Gg t date c) (s2:=kr t date c) (λx y=>x=y/\∃i:Nat,x.2.2=(i:Int)/\i<=t.Rows.length/\-(1000000000000000*(i:Int))<=x.1/\x.1<=1000000000000000*(i:Int)/\-(1000000*(i:Int))<=x.2.1/\x.2.1<=1000000*(i:Int)) (λx=>(t.Rows.length-x.2.2).toNat) (λx y=>x=y/\-150000000000000000<=x.1/\x.1<=150000000000000000/\-150000000<=x.2/\x.2<=150000000) (λx y=>x=(0,3)/\y=(0,3)) (by
   rintro⟨a,b,j⟩ y ⟨rfl,i,l,o,q,s,u,z⟩;dsimp only at l o q s u z;subst l;have hl:=ht.len;unfold Gg kr;dsimp only;by_cases hi:i<t.Rows.length
   .have hN:=ht.n _ (y! hi);rw[J,J,va hi];simp only[a!,Mf,Ft];generalize t.Rows[i]=r at hN⊢;by_cases f:aB r.ab date=a38/\¬(min r.Hi c<=max r.Lo 0)
    .rw[J f.1,J f.2];have q1:s6 (min r.Hi c<=max r.Lo 0)=a39:=l5
     rw[q1,f.1];simp only[a!,Φ,t!,u4];rw[f? U U];obtain⟨len,d⟩:=V' (show 0<=min r.Hi c-max r.Lo 0 by omega);rw[d,Zy U hN,zF U U hN];have hb:=IN (neg:=s6 (r.N<0)) (len:=len) (n:=r.N.natAbs);generalize YS (s6 (r.N<0)) (JN len r.N.natAbs)=v at hb⊢;obtain⟨B,C,D⟩:=v;simp only[a!]at hb⊢;cases D
     .simp
     .left;rw[f? (n:=a+B) U U,f? (n:=b+C) U U,pa U];refine⟨_,_,rfl,rfl,⟨rfl,i+1,rfl,U,?_⟩,?_⟩
      all_goals grind
    .have q1:(if aB r.ab date=a38 then M (s6 (min r.Hi c<=max r.Lo 0))else M a38)=M a38:=by
      simp_all
     have A:(if¬(min r.Hi c<=max r.Lo 0)then M (!aB r.ab date)else M a38)=M a38:=by
      grind
     rw[q1,A];simp only[a!,D1];left;rw[pa U];refine⟨_,_,rfl,rfl,⟨rfl,i+1,rfl,U,?_⟩,?_⟩
     all_goals grind
   grind) t.Rows.length (0,0,0) (0,0,0) o0 ⟨rfl,0,rfl,U,o0⟩
  rcases g with⟨x,y,g1,g2,rfl,g3⟩|⟨x,y,g1,g2,rfl,rfl⟩
  .rw[g1,g2];obtain⟨w,m⟩:=x;dsimp only at g3;simp only[a!];rw[fD hm U U,AM hm U U];simp only[a!];rw[tf U U,a!]
   grind
  simp_all
theorem pY(ht:t.Value.a=4->ι t) (date c mode:Int):∃p,xl t date c mode=M p/\(p.2=0->-1000000000000000<=p.1/\p.1<=1000000000000000):=by
 unfold xl;rw[I4];by_cases hm:¬(0<=mode/\mode<=5)
 .simp_all
 have hm:=Xab.1 hm;rw[w2 (p:=¬(0<=mode/\mode<=5)) (λh=>h hm),p6 (show¬(a39=a38)from λh=>nomatch h)];have f:∀{α:Type} (k:Bool->Option α),(b? (α:=Bool) (if t.af.a=3/\t.af.g=0 then M (!((t.Value.a==4)&&(t.Value.g==0)))else M a38) k)=k (!s6 ((t.af.a=3/\t.af.g=0)/\(t.Value.a=4/\t.Value.g=0))):=by
  grind
 rw[f];by_cases hk:¬((t.af.a=3/\t.af.g=0)/\(t.Value.a=4/\t.Value.g=0))
 .rw[w2 hk,J (show(!false)=a38 from rfl)];simp
 have hk:=Xab.1 hk;rw[s7 hk,p6 (show¬((!true)=a38)from λh=>nomatch h)];have ht:=ht hk.2.1;by_cases hc:1000000000000000<c\/c < -1000000000000000
 .have h2:(if¬c < -1000000000000000 then M (s6 (1000000000000000<c))else M a38)=M a38:=by
   grind
  simp_all
 .rw[J,a!,p6 l5];have e:=WI (s1:=Gg t date c) (s2:=Gg t date c) (λx y=>x=y/\∃i:Nat,x.2.2=(i:Int)/\i<=t.Rows.length/\-(1000000000000000*(i:Int))<=x.1/\x.1<=1000000000000000*(i:Int)/\-(1000000*(i:Int))<=x.2.1/\x.2.1<=1000000*(i:Int)) (λx=>(t.Rows.length-x.2.2).toNat) (λx y=>x=y/\-150000000000000000<=x.1/\x.1<=150000000000000000/\-150000000<=x.2/\x.2<=150000000) (λx y=>x=(0,3)/\y=(0,3)) (by
   rintro⟨a,b,j⟩ y ⟨rfl,i,g,o,q,s,u,z⟩;dsimp only at g o q s u z;subst g;have hl:=ht.len;unfold Gg;dsimp only;by_cases hi:i<t.Rows.length
   .have hN:=ht.n _ (y! hi);rw[J,va hi];simp only[a!,Mf];generalize t.Rows[i]=r at hN⊢;by_cases l:aB r.ab date=a38/\¬(min r.Hi c<=max r.Lo 0)
    .rw[J l.1];have q1:s6 (min r.Hi c<=max r.Lo 0)=a39:=l5
     rw[q1];simp only[a!,t!,u4];rw[f? U U];obtain⟨len,d⟩:=V' (show 0<=min r.Hi c-max r.Lo 0 by omega);rw[d,Zy U hN];have hb:=IN (neg:=s6 (r.N<0)) (len:=len) (n:=r.N.natAbs);generalize YS (s6 (r.N<0)) (JN len r.N.natAbs)=v at hb⊢;obtain⟨A,B,C⟩:=v;simp only[a!]at hb⊢;cases C
     .simp
     .left;rw[f? (n:=a+A) U U,f? (n:=b+B) U U,pa U];refine⟨_,_,rfl,rfl,⟨rfl,i+1,rfl,U,?_⟩,?_⟩
      all_goals grind
    .have q1:(if aB r.ab date=a38 then M (s6 (min r.Hi c<=max r.Lo 0))else M a38)=M a38:=by
      simp_all
     have q2:(if¬(min r.Hi c<=max r.Lo 0)then M (!aB r.ab date)else M a38)=M a38:=by
      grind
     rw[q1];simp only[a!,D1];left;rw[pa U];refine⟨_,_,rfl,rfl,⟨rfl,i+1,rfl,U,?_⟩,?_⟩
     all_goals grind
   grind) t.Rows.length (0,0,0) (0,0,0) o0 ⟨rfl,0,rfl,U,o0⟩
  rcases e with⟨x,y,g1,g2,rfl,g3⟩|⟨x,y,g1,g2,rfl,rfl⟩
  .rw[g1];obtain⟨w,m⟩:=x;dsimp only at g3;simp only[a!];rw[fD hm U U];simp only[a!];by_cases h:1000000000000000<rsS w m mode\/rsS w m mode < -1000000000000000
   .simp_all
   grind
  simp_all
def Ia(v:bz):Prop:=
 (v.a=1/\v.g=0/\0<=v.N/\v.N<=1)\/(v.a=2/\v.g=0/\-1000000000000<=v.N/\v.N<=1000000000000)\/(v.a=3/\v.g=0/\-1000000000000000<=v.N/\v.N<=1000000000000000)\/
 (v.a=4/\v.g=0/\-1000000000<=v.N/\v.N<=1000000000)\/(v.a=5/\v.g=0/\0<=v.N/\v.N<=109572)\/(v.a=6/\0<=v.g/\v.g<8/\0<=v.N/\v.N<16)
instance (v:bz):Decidable (Ia v):=by unfold Ia;infer_instance
def Yz(v:bz):Bool:=s6 (Ia v)
theorem KR{a b:Prop} [Decidable a] [Decidable b]:(b? (α:=Bool) (if a then M (decide b)else M a39) λj=>M j)=M (s6 (a/\b)):=by
 grind
theorem cv0{a:Prop} [Decidable a] {b:Bool}:(if¬a then M b else M a39)=M (!decide a&&b):=by
 grind
theorem wb(v:bz):Vb v=M (Yz v):=by
 obtain⟨K,E,N⟩:=v;unfold Vb Yz Ia;simp only[KR,cv0,a!]
 grind[decide]
theorem ee(v:bz):Lb v=M (Yz v):=by
 obtain⟨K,E,N⟩:=v;unfold Lb It Yz Ia
 grind[decide]
theorem Ia.range(h:Ia v):-1000000000000000<=v.N/\v.N<=1000000000000000/\1<=v.a/\v.a<=6:=by unfold Ia at h;omega
theorem cr9{l:List bz}(hl:l.length<=1048576):qg l=M (l.all Yz)/\ca (Co l) 0=M (if l.all Yz=a38 then .inl ()else .inr (⟨0,0,0⟩,8)):=by
 have e1:ca (Mc l) 0=M (Rb () (ff (λi=>if(l[i]?.any λv=>!Yz v)=a38 then M a39 else s5) l.length)):=
  Gb (λi=>(i:Int)) _ l.length () (λi hi _=>by
   unfold Mc;rw[J,va hi,n! hi]
   grind[mE,wb,pa]) (λ_=>by grind[Mc])
 have e2:ca (Co l) 0=M (Rb () (ff (λi=>if(l[i]?.any λv=>!Yz v)=a38 then M ((⟨0,0,0⟩,8):bz×Int)else s5) l.length)):=
  Gb (λi=>(i:Int)) _ l.length () (λi hi _=>by
   unfold Co;rw[J,va hi,n! hi]
   grind[mE,ee,pa]) (λ_=>by grind[Co])
 unfold qg;rw[e1,e2];by_cases h:l.all Yz=a38
 .have hn:∀i,i<l.length->(l[i]?.any λv=>!Yz v)=a39:=by
   simp_all
  rw[db.2 (λi hi=>l5),db.2 (λi hi=>l5),h];exact⟨rfl,rfl⟩
 .have hb:l.all Yz=a39:=l5
  obtain⟨x,hx,hx2⟩:∃x∈l,Yz x=a39:=by
   simp_all
  obtain⟨k,hk,rfl⟩:=H' hx;have ne:∀{ρ:Type} (v:ρ),ff (λi=>if(l[i]?.any λv=>!Yz v)=a38 then M v else s5) l.length=M v:=by
   intro ρ v
   cases hf:ff (λi=>if(l[i]?.any λv=>!Yz v)=a38 then M v else s5) l.length with
   |none=>
    grind[db]
   |some w=>
    obtain⟨i,_,h2,_⟩:=Qa.1 hf
    simp_all
  rw[ne,ne,hb];exact⟨rfl,rfl⟩
def wfS(n:fr):Bool:=
 s6 (n.N=0\/Yc n.Op=a38)&&s6 ((14<=n.Op/\n.Op<=16->0<=n.N/\n.N<=5)/\(n.Op=34->0<=n.N/\n.N % 8<=5)/\(n.Op=6->0<=n.N))
theorem bv8:(b? (α:=Bool) (if n.Op=14 then M a38 else if n.Op=15 then M a38 else M (n.Op==16)) λh=>
 if h=a38 then b? (α:=Bool) (if 0<=n.N then M (s6 (n.N<=5))else M a39) λe=>M e
 else if n.Op=34 then b? (α:=Bool) (if 0<=n.N then M (s6 ((v? n.N 8)<=5))else M a39) λf=>M f
 else if n.Op=6 then M (s6 (0<=n.N))else M a38)=M (s6 ((14<=n.Op/\n.Op<=16->0<=n.N/\n.N<=5)/\(n.Op=34->0<=n.N/\n.N % 8<=5)/\(n.Op=6->0<=n.N))):=by
 obtain⟨op,N⟩:=n;dsimp only;simp only[KR];by_cases b:op=14
 .simp_all
 by_cases c:op=15
 .simp_all
 by_cases d:op=16
 .simp_all
 by_cases a:op=34
 .subst a;simp
  grind
 by_cases g:op=6
 .simp_all
 simp[b,c,d,a,g];omega
theorem S6(h:1<=op/\op<=39):0<=Kb op:=by
 grind[Kb]
theorem jK(n:fr):dq n=M (s6 (1<=n.Op/\n.Op<=39)&&wfS n):=by
 unfold dq;rw[Bp,a!,bv8];by_cases h:1<=n.Op/\n.Op<=39
 .have:=S6 h;rw[J,La h,s7 h,Ο];unfold wfS;by_cases hN:n.N=0
  .grind
  .cases hu:Yc n.Op<;>simp[hN]
 grind[TF]
theorem kP(n:fr) (k:Nat):nw n k=M (s6 (1<=n.Op/\n.Op<=39)&&(s6 (Kb n.Op=k)&&wfS n)):=by
 unfold nw;rw[fy,a!,bv8];by_cases h:1<=n.Op/\n.Op<=39
 .have hm:zu n.Op=M (Yc n.Op):=by
   rcases NC h with h|h|h|h|h|h|h|h|h|h|h|h|h|h|h|h|h|h|h|h|h|h|h|h|h|h|h|h|h|h|h|h|h|h|h|h|h|h|h<;>rw[h]<;>simp[zu,Yc]
  rw[hm,s7 h,Ο];unfold wfS;by_cases hk:Kb n.Op=k
  .rw[J hk,s7 hk,Ο];by_cases hN:n.N=0
   .grind
   .cases hu:Yc n.Op<;>simp[hN]
  simp_all
 simp_all[TF]
def Pw(n:fr) (env:ic):Bool:=
 if n.Op=7 then s6 (0<=n.N/\n.N<(env.w.length:Int))else
 if n.Op=8 then s6 (0<=n.N/\n.N<(env.d.length:Int))&&!(((env.d[n.N.toNat]?).map (·.a)).getD 0==0)else
 if n.Op=33 then s6 (0<=n.N/\n.N<(env.Tables.length:Int))else
 if n.Op=34 then s6 (aa b! (s? n.N 8)<(env.Tables.length:Int))else
 if 36<=n.Op/\n.Op<=39 then s6 (0<=n.N/\n.N<(env.av.length:Int))else a38
theorem X8:(b? (α:=Bool) (if op=36 then M a38 else if op=37 then M a38 else if op=38 then M a38 else M (op==39)) k)=k (s6 (36<=op/\op<=39)):=by
 by_cases a:op=36
 .simp_all
 by_cases h2:op=37
 .simp_all
 by_cases b:op=38
 .simp_all
 by_cases h4:op=39
 .simp_all
 rw[p6 a,p6 h2,p6 b,a!]
 grind[decide_eq_false_iff_not]
theorem OB(n:fr) (env:ic):uy n env=M (Pw n env):=by
 unfold uy Pw;simp only[X8,KR];split
 .rfl
 split
 .by_cases a:0<=n.N
  .by_cases b:n.N<(env.d.length:Int)
   .rw[J a,J b,nh a b,n! U];grind
   grind
  grind
 grind
theorem TQ(n:fr) (env:ic):Oy n env=M (Pw n env):=by
 unfold Oy Pw;simp only[X8,KR];split
 .rfl
 split
 .by_cases a:0<=n.N
  .by_cases b:n.N<(env.d.length:Int)
   .rw[J a,J b,nh a b,n! U];grind
   grind
  grind
 grind
structure w? (env:ic):Prop where
 tabs:∀t∈env.Tables,t.Rows.length<=150/\(t.Value.a=4->ι t)
 mem:env.s.length<=1048576
def Sb(n:fr) (args:List bz) (env:ic):Option (bz×Int):=
 (ea n args env).bind λa=>if a=a39 then M (⟨0,0,0⟩,8)else
 (sa n args env).bind λx=>if¬x.2=0 then M (⟨0,0,0⟩,x.2)else
 if Yz x.1=a39 then M (⟨0,0,0⟩,3)else M (x.1,0)
def ub(n:fr):List bz->ic->Option (bz×Int)
 |[],env=>if 36<=n.Op/\n.Op<=39 then Qq n env else ig n env
 |[a],env=>Ce n a env
 |[a,b],_=>Ib n a b
 |[a,b,c],_=>if a.a=1/\b.a=c.a/\b.g=c.g then(if a.N=1 then M (b,0)else M (c,0))else M (⟨0,0,0⟩,8)
 |_,_=>s5
def Bn(e r:Option (bz×Int)):Prop:=∃p,e=M p/\r=M p/\(p.2=0->Ia p.1)
theorem dA{c:Int}(h:c≠0):Bn (M (⟨0,0,0⟩,c)) (M (⟨0,0,0⟩,c)):=⟨_,rfl,rfl,λh2=>absurd h2 h⟩
theorem wj{x:Option (bz×Int)}:(x.bind λy=>M (y.1,y.2))=x:=by cases x<;>rfl
theorem yY{env:ic}(ha:args.length<=3) (h:1<=n.Op/\n.Op<=39->Kb n.Op=args.length->wfS n=a38->Pw n env=a38->(∀a∈args,Ia a)->Bn (Sb n args env) (ub n args env)):Bn (og n args env) (Es n args env):=by
 unfold og Es;obtain⟨a1,a2⟩:=cr9 (l:=args) U;rw[jK,Bp,OB,kP,TQ,a1,a2];simp only[a!];by_cases m:1<=n.Op/\n.Op<=39
 case neg=>grind[dA]
 rw[s7 m];simp only[Ο];by_cases h2:wfS n=a38
 case neg=>rw[mac.2 h2];simp_all[dA]
 rw[h2];simp only[Bool.and_true,D1];by_cases o:Kb n.Op=args.length
 case neg=>
  grind[dA]
 have:((args.length:Int) !=Kb n.Op)=a39:=o4
 rw[this,s7 o];simp only[a!,t!,u4,P!];by_cases f:Pw n env=a38
 case neg=>rw[mac.2 f];grind[dA]
 rw[f];simp only[P!,u4];by_cases g:args.all Yz=a38
 case neg=>rw[mac.2 g];grind[dA]
 rw[g];simp only[D1];have p:∀a∈args,Ia a:=λa ha=>D2 (R'.1 g a ha);have hc:=h m o h2 f p;have e1:(b? (α:=Bool) ((ea n args env).bind λj=>M (!j)) λi=>if i=a38 then M ((⟨0,0,0⟩:bz),(8:Int))else(sa n args env).bind λe=>if¬e.2=0 then M (⟨0,0,0⟩,e.2)else(Vb e.1).bind λk=>if k=a39 then M (⟨0,0,0⟩,3)else M (e.1,0))=Sb n args env:=by
  unfold Sb
  cases ea n args env with
  |none=>rfl
  |some b=>
   grind[wb]
 rw[e1];rcases args with _|⟨a,_|⟨b,_|⟨c,_|⟨d,l⟩⟩⟩⟩
 .simp only[M!,Iad,D1]
  grind[ub,wj]
 all_goals grind[ub,Pd,wj,LI,JT]
def jr(v:bz):bz×Int:=if Yz v=a38 then(v,0)else(⟨0,0,0⟩,3)
theorem Jb(k n:Int):Tc k n=M (jr ⟨k,0,n⟩):=by
 grind[Tc,jr,ee]
theorem Mp(k n e:Int):Pk k n e=M (if e=0 then jr ⟨k,0,n⟩else(⟨0,0,0⟩,e)):=by
 grind[Pk,Jb]
theorem F4(v:bz):(jr v).2=0->Ia (jr v).1:=by
 grind[jr,Yz]
theorem Y6(v:bz):Bn (M (jr v)) (M (jr v)):=⟨_,rfl,rfl,F4 v⟩
theorem qV{env:ic}(h:ea n args env=M a38) {e:Int}(hc:sa n args env=M (v,e)):Sb n args env=M (if e=0 then jr v else(⟨0,0,0⟩,e)):=by
 grind[Sb,jr]
theorem pV{env:ic}(h:ea n args env=M a39):Sb n args env=M (⟨0,0,0⟩,8):=by
 grind[Sb]
theorem we{env:ic}(h:ea n args env=M a38) {e:Int}(hc:sa n args env=M (v,e)) (hr:ub n args env=M (if e=0 then jr v else(⟨0,0,0⟩,e))):Bn (Sb n args env) (ub n args env):=by
 rw[qV h hc,hr];by_cases h0:e=0
 all_goals simp_all[Y6,dA]
theorem Gn{env:ic}(h:ea n args env=M a39) (hr:ub n args env=M (⟨0,0,0⟩,8)):Bn (Sb n args env) (ub n args env):=by
 grind[pV,dA]
theorem ED(h:Ia v):jr v=(v,0):=J (s7 h)
theorem IE{env:ic}(h:1<=op/\op<=5):Bn (Sb ⟨op,N⟩ [] env) (ub ⟨op,N⟩ [] env):=by
 refine we (v:=⟨op,0,N⟩) (e:=0) ?_ ?_ ?_
 .have:op=1\/op=2\/op=3\/op=4\/op=5:=U
  rcases this with rfl|rfl|rfl|rfl|rfl<;>simp[ea]
 .have:op=1\/op=2\/op=3\/op=4\/op=5:=U
  rcases this with rfl|rfl|rfl|rfl|rfl<;>simp[sa]
 .unfold ub;dsimp only;rw[p6,J rfl];unfold ig;dsimp only;rw[p6,p6,p6,p6,p6,Jb];rfl
theorem bq2{env:ic}:Bn (Sb ⟨6,N⟩ [] env) (ub ⟨6,N⟩ [] env):=by
 refine we (v:=⟨6,aa b! (s? N 16),v? N 16⟩) (e:=0) (by simp[ea]) (by simp[sa]) ?_
 grind[ub,ig,jr,ee]
theorem bq1{env:ic}(hf:Pw ⟨7,N⟩ env=a38):Bn (Sb ⟨7,N⟩ [] env) (ub ⟨7,N⟩ [] env):=by
 simp only[Pw,D1,w3]at hf
 grind[ea,sa,ub,ig,jr,nh,we,wb,ee,Gn]
theorem bq0{env:ic}(hf:Pw ⟨8,N⟩ env=a38):Bn (Sb ⟨8,N⟩ [] env) (ub ⟨8,N⟩ [] env):=by
 simp only[Pw,u!,u4,D1,E!,w3]at hf
 grind[ea,sa,ub,ig,jr,nh,we,wb,ee,Gn]
theorem bp9{env:ic}:Bn (Sb ⟨9,N⟩ [] env) (ub ⟨9,N⟩ [] env):=
 we (v:=⟨5,0,env.z⟩) (e:=0) (by simp[ea]) (by simp[sa]) (by simp[ub,ig,Jb])
theorem aP2{env:ic}:Bn (Sb ⟨35,N⟩ [] env) (ub ⟨35,N⟩ [] env):=
 we (v:=⟨2,0,(env.s.length:Int)⟩) (e:=0) (by simp[ea]) (by simp[sa]) (by simp[ub,ig,Jb])
theorem Cc(k:Int):Tj k=M (s6 (2<=k/\k<=4)):=by
 unfold Tj;by_cases h2:k=2
 .simp_all
 by_cases a:k=3
 .simp_all
 rw[J h2,J a,a!]
 grind[decide_eq_false]
theorem Nk(k:Int):Lp k=M (s6 (2<=k/\k<=4)):=by
 unfold Lp;by_cases h2:k=2
 .simp_all
 by_cases a:k=3
 .simp_all
 rw[J h2,J a,a!]
 grind[decide_eq_false]
theorem xf(b:Bool):mj b=M ⟨1,0,if b=a38 then 1 else 0⟩:=by cases b<;>rfl
theorem xn(b:Bool):Fi b=M (⟨1,0,if b=a38 then 1 else 0⟩,0):=by cases b<;>rfl
theorem Dx(b:Bool):jr ⟨1,0,if b=a38 then 1 else 0⟩=(⟨1,0,if b=a38 then 1 else 0⟩,0):=by cases b<;>exact ED p5
theorem aP9{env:ic}(ha:Ia a):Bn (Sb ⟨10,N⟩ [a] env) (ub ⟨10,N⟩ [a] env):=by
 have hr:=ha.range;by_cases hn:2<=a.a/\a.a<=4
 .refine we (v:=⟨a.a,0,-a.N⟩) (e:=0) (by grind[ea,Pa,Pd,Cc]) (by grind[sa,qk,Pd,f?]) ?_;simp[ub,Ce,Nk,hn,f? (n:=-a.N) U U,Jb]
 .have hd:s6 (2<=a.a/\a.a<=4)=a39:=w2 hn;refine Gn (by simp only[ea,u!,u4,a!,F!,t!,Pd,Pa,Cc,hd,G!,M!,D1,Y!,Nad]) (by simp_all[ub,Ce,Nk])
theorem aP8{env:ic}(ha:Ia a):Bn (Sb ⟨25,N⟩ [a] env) (ub ⟨25,N⟩ [a] env):=by
 by_cases hn:a.a=1
 .refine we (v:=⟨1,0,if(a.N==0)=a38 then 1 else 0⟩) (e:=0) aaL (by simp only[sa,u!,u4,a!,F!,t!,Pd,qk,xf,G!,M!,D1,Y!,Nad]) ?_;rw[Dx]
  simp_all[ub,Ce,xn]
 grind[ea,Pa,ub,Ce,Gn,Pd]
theorem oR{env:ic}(b:op=31\/op=32) (ha:Ia a):Bn (Sb ⟨op,N⟩ [a] env) (ub ⟨op,N⟩ [a] env):=by
 by_cases hn:a.a=5
 .have f:0<=a.N/\a.N<=109572:=by unfold Ia at ha;omega
  obtain⟨y,m,d,c,hz⟩:∃y m d,mn a.N=M (y,m,d)/\Yr a.N=M (y,m,d):=by
   obtain⟨n,m,k,c⟩:=RF f.1 f.2;exact⟨_,_,_,xp c,YG c⟩
  rcases b with rfl|rfl
  .refine we (v:=⟨2,0,y⟩) (e:=0) aaL (by grind[sa,qk,Pd]) ?_
   simp_all[ub,Ce,Jb]
  .refine we (v:=⟨2,0,m⟩) (e:=0) aaL (by grind[sa,qk,Pd]) ?_
   simp_all[ub,Ce,Jb]
 .rcases b with rfl|rfl
  all_goals grind[ea,Pa,ub,Ce,Gn,Pd]
theorem Uv(v:bz) (t:ej):tt v t=M (Yz v&&(s6 (v.a=t.a)&&s6 (v.g=t.g))):=by
 grind[tt,wb]
theorem RW(v:bz) (t:ej):TC v t=M (Yz v&&(s6 (v.a=t.a)&&s6 (v.g=t.g))):=by
 grind[TC,ee]
theorem aP4{env:ic}(he:w? env) (hf:Pw ⟨33,N⟩ env=a38) (ha:Ia a):Bn (Sb ⟨33,N⟩ [a] env) (ub ⟨33,N⟩ [a] env):=by
 simp only[Pw,u!,u4,D1,w3]at hf;have hm:env.Tables[N.toNat]' U∈env.Tables:=y! _;have hi:c! env.Tables N=M (env.Tables[N.toNat]' U):=nh hf.1 hf.2;generalize env.Tables[N.toNat]' U=t at hi hm;have ht:=he.tabs t hm;have e:Yz a=a38:=s7 ha;have c:ea ⟨33,N⟩ [a] env=M (s6 (a.a=t.af.a/\a.g=t.af.g/\1<=t.Value.a/\t.Value.a<=6)):=by
  simp only[ea,u!,u4,D1,hi,Pd,a!,Uv,e,Ο]
  grind
 have hre:ub ⟨33,N⟩ [a] env=Jt t env.z a:=by
  grind[ub,Ce,wj]
 have b:Jt t env.z a=if a.a=t.af.a/\a.g=t.af.g/\1<=t.Value.a/\t.Value.a<=6 then(Ht t env.z a.N).bind λg=>if g.2=a39 then M (⟨0,0,0⟩,6)else(c! t.Rows g.1).bind λh=>M (jr ⟨t.Value.a,t.Value.g,h.N⟩)else M (⟨0,0,0⟩,8):=by
  grind[Jt,jr,ee]
 by_cases hc:a.a=t.af.a/\a.g=t.af.g/\1<=t.Value.a/\t.Value.a<=6
 .rw[s7 hc]at c;rw[J hc,iP U,a!]at b;have d:sa ⟨33,N⟩ [a] env=if(IC t env.z a.N).2=a39 then M (⟨0,0,0⟩,6)else(c! t.Rows (IC t env.z a.N).1).bind λf=>M (⟨t.Value.a,t.Value.g,f.N⟩,0):=by
   grind[sa,Pd,MF]
  by_cases hl:(IC t env.z a.N).2=a38
  .obtain⟨i,h1,h2⟩:=oW hl
   grind[va,we]
  .rw[mac.2 hl]at b d
   grind[we]
 .rw[w2 hc]at c;rw[p6 hc]at b
  grind[Gn]
theorem aP3{env:ic}(he:w? env) (hN:cc ⟨34,N⟩) (hw:wfS ⟨34,N⟩=a38) (hf:Pw ⟨34,N⟩ env=a38) (ha:Ia a):Bn (Sb ⟨34,N⟩ [a] env) (ub ⟨34,N⟩ [a] env):=by
 simp only[Pw,u!,u4,D1,w3]at hf;have g:0<=N/\N % 8<=5:=by
  simp_all[wfS]
 obtain⟨d,e⟩:=hN;dsimp only at d e;have hq:aa b! (s? N 8)=N / 8:=by grind[f?]
 have hr:v? N 8=N % 8:=HX g.1;rw[hq]at hf;have hm:env.Tables[(N / 8).toNat]' U∈env.Tables:=y! _;have hi:c! env.Tables (N / 8)=M (env.Tables[(N / 8).toNat]' U):=nh U hf;generalize env.Tables[(N / 8).toNat]' U=t at hi hm;have ht:=he.tabs t hm;obtain⟨p,b1,f,b3⟩:=lQ ht.2 env.z a.N (N % 8);have b:ea ⟨34,N⟩ [a] env=M (s6 (a.a=3/\t.af.a=3/\t.af.g=0/\t.Value.a=4/\t.Value.g=0)):=by
  simp only[ea,u!,u4,D1,hq,hi,Pd,a!]
  grind
 have c:ub ⟨34,N⟩ [a] env=if a.a=3/\t.af.a=3/\t.af.g=0/\t.Value.a=4/\t.Value.g=0 then M (if p.2=0 then jr ⟨3,0,p.1⟩else(⟨0,0,0⟩,p.2))else M (⟨0,0,0⟩,8):=by
  simp only[ub,Ce,u!,u4,a!,F!,t!,hq,hr,hi,f,Mp]
  grind
 by_cases hc:a.a=3/\t.af.a=3/\t.af.g=0/\t.Value.a=4/\t.Value.g=0
 .rw[s7 hc]at b;rw[J hc]at c
  grind[sa,we,Pd]
 .rw[w2 hc]at b;rw[p6 hc]at c
  grind[Gn]
theorem aP7{c:bz}{env:ic}(ha:Ia a) (hb:Ia b) (hc:Ia c):Bn (Sb ⟨26,N⟩ [a,b,c] env) (ub ⟨26,N⟩ [a,b,c] env):=by
 by_cases h:a.a=1/\b.a=c.a/\b.g=c.g
 .have d:ea ⟨26,N⟩ [a,b,c] env=M a38:=by
   grind[ea,qe,Pd,LI,JT]
  grind[sa,ub,we,Pd,LI,JT,ED]
 .have d:ea ⟨26,N⟩ [a,b,c] env=M (s6 (a.a=1/\b.a=c.a/\b.g=c.g)):=by
   grind[ea,qe,Pd,LI,JT]
  rw[w2 h]at d;exact Gn d (by simp_all[ub])
def MA(e:Option (bz×Int)):Prop:=∃p,e=M p/\(p.2=0->Ia p.1)
theorem An{env:ic}(h:ea n args env=M a38) {e:Int}(hc:sa n args env=M (v,e)):MA (Sb n args env):=by
 rw[qV h hc];by_cases a:e=0
 .rw[J a];exact⟨_,rfl,F4 v⟩
 .rw[p6 a];exact⟨_,rfl,λh2=>absurd h2 a⟩
theorem qz{env:ic}(h:ea n args env=M a39):MA (Sb n args env):=by
 rw[pV h];exact⟨_,rfl,λh2=>absurd h2 p5⟩
theorem aA6{env:ic}:MA (Sb ⟨6,N⟩ [] env):=by
 exact An (v:=⟨6,aa b! (s? N 16),v? N 16⟩) (e:=0) (by simp[ea]) (by simp[sa])
theorem aA5{env:ic}(hf:Pw ⟨7,N⟩ env=a38):MA (Sb ⟨7,N⟩ [] env):=by
 simp only[Pw,D1,w3]at hf;have hi:c! env.w N=M (env.w[N.toNat]' U):=nh hf.1 hf.2;generalize env.w[N.toNat]' U=v at hi;by_cases hv:Yz v=a38
 .exact An (v:=v) (e:=0) (by grind[ea,wb]) (by grind[sa])
 grind[ea,qz,wb]
theorem aA4{env:ic}(hf:Pw ⟨8,N⟩ env=a38):MA (Sb ⟨8,N⟩ [] env):=by
 simp only[Pw,u!,u4,D1,E!,w3]at hf;have hi:c! env.d N=M (env.d[N.toNat]' U):=nh hf.1.1 hf.1.2;generalize env.d[N.toNat]' U=v at hi;by_cases hv:Yz v=a38
 .exact An (v:=v) (e:=0) (by grind[ea,wb]) (by grind[sa])
 grind[ea,qz,wb]
theorem aA3{env:ic}:MA (Sb ⟨9,N⟩ [] env):=
 An (v:=⟨5,0,env.z⟩) (e:=0) (by simp[ea]) (by simp[sa])
theorem ac6{env:ic}:MA (Sb ⟨35,N⟩ [] env):=
 An (v:=⟨2,0,(env.s.length:Int)⟩) (e:=0) (by simp[ea]) (by simp[sa])
theorem ad3{env:ic}(ha:Ia a):MA (Sb ⟨10,N⟩ [a] env):=by
 have hr:=ha.range;by_cases hn:2<=a.a/\a.a<=4
 .exact An (v:=⟨a.a,0,-a.N⟩) (e:=0) (by grind[ea,Pa,Pd,Cc]) (by grind[sa,qk,Pd,f?])
 .have hd:s6 (2<=a.a/\a.a<=4)=a39:=w2 hn;exact qz (by simp only[ea,u!,u4,a!,F!,t!,Pd,Pa,Cc,hd,G!,M!,D1,Y!,Nad])
theorem ad2{env:ic}(ha:Ia a):MA (Sb ⟨25,N⟩ [a] env):=by
 by_cases hn:a.a=1
 .exact An (v:=⟨1,0,if(a.N==0)=a38 then 1 else 0⟩) (e:=0) aaL (by simp only[sa,u!,u4,a!,F!,t!,Pd,qk,xf,G!,M!,D1,Y!,Nad])
 grind[ea,Pa,qz,Pd]
theorem SP{env:ic}(b:op=31\/op=32) (ha:Ia a):MA (Sb ⟨op,N⟩ [a] env):=by
 by_cases hn:a.a=5
 .have c:0<=a.N/\a.N<=109572:=by unfold Ia at ha;omega
  obtain⟨y,m,d,f⟩:∃y m d,mn a.N=M (y,m,d):=by
   obtain⟨n,m,k,f⟩:=RF c.1 c.2;exact⟨_,_,_,xp f⟩
  rcases b with rfl|rfl
  .exact An (v:=⟨2,0,y⟩) (e:=0) aaL (by grind[sa,qk,Pd])
  .exact An (v:=⟨2,0,m⟩) (e:=0) aaL (by grind[sa,qk,Pd])
 .rcases b with rfl|rfl
  all_goals grind[ea,Pa,qz,Pd]
theorem ac8{env:ic}(he:w? env) (hf:Pw ⟨33,N⟩ env=a38) (ha:Ia a):MA (Sb ⟨33,N⟩ [a] env):=by
 simp only[Pw,u!,u4,D1,w3]at hf;have hm:env.Tables[N.toNat]' U∈env.Tables:=y! _;have hi:c! env.Tables N=M (env.Tables[N.toNat]' U):=nh hf.1 hf.2;generalize env.Tables[N.toNat]' U=t at hi hm;have ht:=he.tabs t hm;have d:Yz a=a38:=s7 ha;have b:ea ⟨33,N⟩ [a] env=M (s6 (a.a=t.af.a/\a.g=t.af.g/\1<=t.Value.a/\t.Value.a<=6)):=by
  simp only[ea,u!,u4,D1,hi,Pd,a!,Uv,d,Ο]
  grind
 by_cases hc:a.a=t.af.a/\a.g=t.af.g/\1<=t.Value.a/\t.Value.a<=6
 .rw[s7 hc]at b;have c:sa ⟨33,N⟩ [a] env=if(IC t env.z a.N).2=a39 then M (⟨0,0,0⟩,6)else(c! t.Rows (IC t env.z a.N).1).bind λe=>M (⟨t.Value.a,t.Value.g,e.N⟩,0):=by
   grind[sa,Pd,MF]
  by_cases hl:(IC t env.z a.N).2=a38
  .grind[oW,va,An]
  .rw[mac.2 hl]at c
   grind[An]
 grind[qz]
theorem ac7{env:ic}(he:w? env) (hN:cc ⟨34,N⟩) (hw:wfS ⟨34,N⟩=a38) (hf:Pw ⟨34,N⟩ env=a38) (ha:Ia a):MA (Sb ⟨34,N⟩ [a] env):=by
 simp only[Pw,u!,u4,D1,w3]at hf;have f:0<=N/\N % 8<=5:=by
  simp_all[wfS]
 obtain⟨c,d⟩:=hN;dsimp only at c d;have hq:aa b! (s? N 8)=N / 8:=by grind[f?]
 have hr:v? N 8=N % 8:=HX f.1;rw[hq]at hf;have hm:env.Tables[(N / 8).toNat]' U∈env.Tables:=y! _;have hi:c! env.Tables (N / 8)=M (env.Tables[(N / 8).toNat]' U):=nh U hf;generalize env.Tables[(N / 8).toNat]' U=t at hi hm;have ht:=he.tabs t hm;obtain⟨p,b1,b3⟩:=pY ht.2 env.z a.N (N % 8);have b:ea ⟨34,N⟩ [a] env=M (s6 (a.a=3/\t.af.a=3/\t.af.g=0/\t.Value.a=4/\t.Value.g=0)):=by
  simp only[ea,u!,u4,D1,hq,hi,Pd,a!]
  grind
 by_cases hc:a.a=3/\t.af.a=3/\t.af.g=0/\t.Value.a=4/\t.Value.g=0
 .rw[s7 hc]at b;exact An (v:=⟨3,0,p.1⟩) (e:=p.2) b (by grind[sa,Pd])
 grind[qz]
theorem ad1{c:bz}{env:ic}(ha:Ia a) (hb:Ia b) (hc:Ia c):MA (Sb ⟨26,N⟩ [a,b,c] env):=by
 by_cases h:a.a=1/\b.a=c.a/\b.g=c.g
 .have d:ea ⟨26,N⟩ [a,b,c] env=M a38:=by
   grind[ea,qe,Pd,LI,JT]
  by_cases hN:a.N=1
  .exact An (v:=b) (e:=0) d (by grind[sa,Pd,LI])
  .exact An (v:=c) (e:=0) d (by grind[sa,Pd,JT])
 grind[ea,qe,Pd,LI,JT,qz]
theorem iD{env:ic}(h:1<=op/\op<=5):MA (Sb ⟨op,N⟩ [] env):=by
 refine An (v:=⟨op,0,N⟩) (e:=0) ?_ ?_
 .have:op=1\/op=2\/op=3\/op=4\/op=5:=U
  rcases this with rfl|rfl|rfl|rfl|rfl<;>simp[ea]
 .have:op=1\/op=2\/op=3\/op=4\/op=5:=U
  rcases this with rfl|rfl|rfl|rfl|rfl<;>simp[sa]
theorem fE{env:ic}(h:(11<=op/\op<=24)\/(27<=op/\op<=30)):ea ⟨op,N⟩ [a,b] env=Aa op a b:=by
 unfold ea;dsimp only;rw[p6,p6,p6,p6,X8,w2 U,p6 o0,p6 o0,J o0,Pd,LI,a!,a!];simp
theorem py{env:ic}(h:(11<=op/\op<=24)\/(27<=op/\op<=30)):sa ⟨op,N⟩ [a,b] env=Na ⟨op,N⟩ a b:=by
 unfold sa;dsimp only;have c:(op==5)=a39:=o4
 rw[p6,p6,p6,p6,c,a!,p6 o0,p6,p6,p6,p6,p6,X8,w2 U,p6 o0,p6,p6,p6 o0,J o0,Pd,LI,a!,a!,wj]
def yS(a b:bz):Prop:=a.a=b.a/\a.g=b.g
instance (a b:bz):Decidable (yS a b):=by unfold yS;infer_instance
theorem Ng(a b:bz):qe a b=M (s6 (yS a b)):=by
 unfold qe yS;by_cases c:a.a=b.a<;>by_cases h2:a.g=b.g<;>simp[c,h2]
theorem smO:(b? (α:=Bool) (if a.a=b.a then M (a.g !=b.g)else M a38) k)=k (s6 (¬yS a b)):=by
 unfold yS;by_cases c:a.a=b.a
 .rw[J c,a!];congr 1
  grind
 simp_all
theorem Bn.ite[Decidable c] {env:ic}{e:Int}(a:ea n args env=M (decide c)) (hco:c->sa n args env=M (v,e)) (b:ub n args env=if c then M (if e=0 then jr v else(⟨0,0,0⟩,e))else M (⟨0,0,0⟩,8)):Bn (Sb n args env) (ub n args env):=by
 by_cases h:c
 .rw[s7 h]at a;rw[J h]at b
  grind[we]
 .rw[w2 h]at a;rw[p6 h]at b
  grind[Gn]
theorem VF{a b:Prop} [Decidable a] [Decidable b]:(if decide a=a38 then M (decide b)else M a39)=M (s6 (a/\b)):=by
 grind
theorem X1{env:ic}(d:op=11\/op=12) (ha:Ia a) (hb:Ia b):Bn (Sb ⟨op,N⟩ [a,b] env) (ub ⟨op,N⟩ [a,b] env):=by
 have h1:=ha.range;have h2:=hb.range;have c:ea ⟨op,N⟩ [a,b] env=M (s6 (yS a b/\2<=a.a/\a.a<=4)):=by
  rw[fE U];rcases d with rfl|rfl<;>simp only[Aa,u!,D1,u4,a!,Ng,Cc,VF,F!]
 rcases d with rfl|rfl
 .refine Bn.ite (v:=⟨a.a,0,a.N+b.N⟩) (e:=0) c (λ_=>?_) ?_
  .rw[py U];simp only[Na,D1,a!,f? (n:=a.N+b.N) U U]
  .simp only[ub,Ib,G2,G1,kd,smO,Nk,Ψ,u!,F!,D1,u4,a!,t!,f? (n:=a.N+b.N) U U,Jb,wj]
   grind
 .refine Bn.ite (v:=⟨a.a,0,a.N-b.N⟩) (e:=0) c (λ_=>?_) ?_
  .rw[py U];simp only[Na,u!,F!,D1,u4,t!,a!,f? (n:=a.N-b.N) U U]
  .simp only[ub,Ib,G2,G1,kd,smO,Nk,Ψ,u!,F!,D1,u4,a!,t!,f? (n:=a.N-b.N) U U,Jb,wj]
   grind
theorem bw9(h:yS a b) (hn:a.N=b.N):a=b:=by
 obtain⟨k,e,n⟩:=a;obtain⟨k',e',n'⟩:=b;obtain⟨h1,h2⟩:=h
 simp_all
theorem Y1{env:ic}(c:op=17\/op=18) (ha:Ia a) (hb:Ia b):Bn (Sb ⟨op,N⟩ [a,b] env) (ub ⟨op,N⟩ [a,b] env):=by
 have h1:=ha.range;have hk:(2<=a.a/\a.a<=5)↔((2<=a.a/\a.a<=4)\/a.a=5):=U
 have d:ea ⟨op,N⟩ [a,b] env=M (s6 (yS a b/\2<=a.a/\a.a<=5)):=by
  rw[fE U];rcases c with rfl|rfl<;>simp only[Aa,u!,D1,u4,a!,Ng,Cc,VF,F!,t!,hk]
  all_goals grind
 have i:ub ⟨op,N⟩ [a,b] env=if yS a b/\2<=a.a/\a.a<=5 then M (if(op==17)=s6 (a.N<b.N)then(a,0)else(b,0))else M (⟨0,0,0⟩,8):=by
  rcases c with rfl|rfl<;>simp only[ub,Ib,G2,G1,kd,smO,Nk,Ψ,u!,F!,D1,u4,a!,t!,wj,hk]
  all_goals grind
 have f:yS a b/\2<=a.a/\a.a<=5->sa ⟨op,N⟩ [a,b] env=M ((if(op==17)=s6 (a.N<b.N)then a else b),0):=by
  intro hc;rw[py U];have he:=λh=>bw9 hc.1 h;rcases c with rfl|rfl<;>simp only[Na,Ψ,u!,F!,D1,u4,a!,t!]
  all_goals grind
 refine Bn.ite (e:=0) d f ?_;rw[i,J rfl];by_cases g:(op==17)=s6 (a.N<b.N)
 all_goals simp_all[ED]
theorem Z1{env:ic}(d:op=19\/op=20) (ha:Ia a) (hb:Ia b):Bn (Sb ⟨op,N⟩ [a,b] env) (ub ⟨op,N⟩ [a,b] env):=by
 have c:ea ⟨op,N⟩ [a,b] env=M (s6 (yS a b)):=by
  rw[fE U];rcases d with rfl|rfl<;>simp only[Aa,u!,D1,u4,a!,Ng,F!,t!]
 rcases d with rfl|rfl
 .refine Bn.ite (v:=⟨1,0,if(a.N==b.N)=a38 then 1 else 0⟩) (e:=0) c (λ_=>?_) ?_
  .simp_all[Na,py,xf]
  .simp only[ub,Ib,G2,G1,kd,smO,Ψ,u!,F!,D1,u4,a!,t!,xn,wj,Dx];simp
 .refine Bn.ite (v:=⟨1,0,if(a.N !=b.N)=a38 then 1 else 0⟩) (e:=0) c (λ_=>?_) ?_
  .simp_all[Na,py,xf]
  .simp only[ub,Ib,G2,G1,kd,smO,Ψ,u!,F!,D1,u4,a!,t!,xn,wj,Dx];simp
theorem B2{env:ic}(d:op=21\/op=22) (ha:Ia a) (hb:Ia b):Bn (Sb ⟨op,N⟩ [a,b] env) (ub ⟨op,N⟩ [a,b] env):=by
 have hk:(2<=a.a/\a.a<=5)↔((2<=a.a/\a.a<=4)\/a.a=5):=U
 have c:ea ⟨op,N⟩ [a,b] env=M (s6 (yS a b/\2<=a.a/\a.a<=5)):=by
  rw[fE U];rcases d with rfl|rfl<;>simp only[Aa,u!,D1,u4,a!,Ng,Cc,VF,F!,t!,hk]
  all_goals grind
 rcases d with rfl|rfl
 .refine Bn.ite (v:=⟨1,0,if s6 (a.N<b.N)=a38 then 1 else 0⟩) (e:=0) c (λ_=>?_) ?_
  .simp_all[Na,py,xf]
  .simp only[ub,Ib,G2,G1,kd,smO,Nk,Ψ,u!,F!,D1,u4,a!,t!,xn,wj,Dx,hk]
   grind
 .refine Bn.ite (v:=⟨1,0,if s6 (a.N<=b.N)=a38 then 1 else 0⟩) (e:=0) c (λ_=>?_) ?_
  .simp_all[Na,py,xf]
  .simp only[ub,Ib,G2,G1,kd,smO,Nk,Ψ,u!,F!,D1,u4,a!,t!,xn,wj,Dx,hk]
   grind
theorem WT(h:Ia a) (hk:a.a=1):a.g=0/\(a.N=0\/a.N=1):=by unfold Ia at h;omega
theorem F2{env:ic}(d:op=23\/op=24) (ha:Ia a) (hb:Ia b):Bn (Sb ⟨op,N⟩ [a,b] env) (ub ⟨op,N⟩ [a,b] env):=by
 have h1:=ha.range;have h2:=hb.range;have c:ea ⟨op,N⟩ [a,b] env=M (s6 (a.a=1/\b.a=1)):=by
  rw[fE U];rcases d with rfl|rfl<;>simp only[Aa,u!,D1,u4,a!,F!,t!]
  all_goals grind
 have f:(yS a b/\a.a=1)↔(a.a=1/\b.a=1):=by
  unfold yS
  grind[WT]
 by_cases hc:a.a=1/\b.a=1
 .have e1:=WT ha hc.1;have e2:=WT hb hc.2;have hs:=f.2 hc;have n1:=e1.2;have n2:=e2.2;rw[s7 hc]at c;have e:sa ⟨op,N⟩ [a,b] env=M (⟨1,0,if(if op=23 then s6 (a.N=1/\b.N=1)else s6 (a.N=1\/b.N=1))=a38 then 1 else 0⟩,0):=by
   rw[py U];rcases d with rfl|rfl<;>simp only[Na,u!,F!,D1,u4,t!,a!,xf]
   all_goals grind
  have hre:ub ⟨op,N⟩ [a,b] env=M (jr ⟨1,0,if(if op=23 then s6 (a.N=1/\b.N=1)else s6 (a.N=1\/b.N=1))=a38 then 1 else 0⟩):=by
   rw[Dx];rcases d with rfl|rfl<;>simp only[ub,Ib,G2,G1,kd,smO,Ψ,u!,F!,D1,u4,a!,t!,xn,wj,f? (n:=a.N+b.N) U U]
   all_goals grind
  exact we c e l5
 .rw[w2 hc]at c;refine Gn c ?_;rcases d with rfl|rfl<;>simp only[ub,Ib,G2,G1,kd,smO,Ψ,u!,F!,D1,u4,a!,t!,xn,wj]
  all_goals simp_all
theorem aP6{env:ic}(ha:Ia a) (hb:Ia b):Bn (Sb ⟨27,N⟩ [a,b] env) (ub ⟨27,N⟩ [a,b] env):=by
 have h1:=ha.range;have h2:=hb.range;have c:ea ⟨27,N⟩ [a,b] env=M (s6 (a.a=5/\b.a=2)):=by
  rw[fE U]
  grind[Aa]
 refine Bn.ite (v:=⟨5,0,a.N+b.N⟩) (e:=0) c (λhc=>?_) ?_
 .rw[py U];simp only[Na,u!,F!,D1,u4,t!,a!,f? (n:=a.N+b.N) U U,hc.1]
 .simp only[ub,Ib,G2,G1,lp,Ψ,u!,F!,D1,u4,a!,t!,f? (n:=a.N+b.N) U U,Jb,wj,not_true]
  grind
theorem aS1(a:Int) (j:Int) (ha:0<=a/\a<=109572):∃p,qf a j=M p/\Ug a j=M p:=by
 by_cases hj:-3600<=j/\j<=3600
 .obtain⟨n,m,k,b⟩:=RF ha.1 ha.2;exact⟨_,Zs b hj,cw b hj⟩
 simp_all[qf,Ug,Zl,tu]
theorem bz1(h:Ia a) (hk:a.a=5):0<=a.N/\a.N<=109572:=by unfold Ia at h;omega
theorem aP5{env:ic}(ha:Ia a) (hb:Ia b):Bn (Sb ⟨28,N⟩ [a,b] env) (ub ⟨28,N⟩ [a,b] env):=by
 have c:ea ⟨28,N⟩ [a,b] env=M (s6 (a.a=5/\b.a=2)):=by
  rw[fE U]
  grind[Aa]
 by_cases hc:a.a=5/\b.a=2
 .obtain⟨p,p1,d⟩:=aS1 a.N b.N (bz1 ha hc.1);rw[s7 hc]at c;refine we (v:=⟨5,0,p.1⟩) (e:=p.2) c ?_ ?_
  .simp_all[Na,py]
  .simp only[ub,Ib,G2,G1,lp,Ψ,u!,F!,D1,u4,a!,t!,d,Mp,wj,not_true,hc.1,hc.2,R2]
 .rw[w2 hc]at c;refine Gn c ?_
  grind[ub,Ib,lp]
theorem K2{env:ic}(d:op=29\/op=30) (ha:Ia a) (hb:Ia b):Bn (Sb ⟨op,N⟩ [a,b] env) (ub ⟨op,N⟩ [a,b] env):=by
 have h1:=ha.range;have h2:=hb.range;have c:ea ⟨op,N⟩ [a,b] env=M (s6 (a.a=5/\b.a=5)):=by
  rw[fE U];rcases d with rfl|rfl<;>simp only[Aa,u!,D1,u4,a!,F!,t!]
  all_goals grind
 obtain⟨y,y1,f,-⟩:=ax6 a.N b.N;rcases d with rfl|rfl
 .refine Bn.ite (v:=⟨2,0,b.N-a.N⟩) (e:=0) c (λhc=>?_) ?_
  .rw[py U];simp only[Na,u!,F!,D1,u4,t!,a!,f? (n:=b.N-a.N) U U]
  .simp only[ub,Ib,G2,G1,lp,Ψ,u!,F!,D1,u4,a!,t!,f? (n:=b.N-a.N) U U,Jb,wj,not_true,R2]
   grind
 .refine Bn.ite (v:=⟨2,0,y⟩) (e:=0) c (λhc=>?_) ?_
  .simp_all[Na,py]
  .simp only[ub,Ib,G2,G1,lp,Ψ,u!,F!,D1,u4,a!,t!,f,Jb,wj,not_true,R2]
   grind
theorem MA.ite[Decidable c] {env:ic}{e:Int}(hal:ea n args env=M (decide c)) (hco:c->sa n args env=M (v,e)):MA (Sb n args env):=by
 by_cases h:c
 all_goals grind[An,qz]
theorem xX{env:ic}(d:op=11\/op=12) (ha:Ia a) (hb:Ia b):MA (Sb ⟨op,N⟩ [a,b] env):=by
 have h1:=ha.range;have h2:=hb.range;have c:ea ⟨op,N⟩ [a,b] env=M (s6 (yS a b/\2<=a.a/\a.a<=4)):=by
  rw[fE U];rcases d with rfl|rfl<;>simp only[Aa,u!,D1,u4,a!,Ng,Cc,VF,F!]
 rcases d with rfl|rfl
 .refine MA.ite (v:=⟨a.a,0,a.N+b.N⟩) (e:=0) c (λ_=>?_);rw[py U];simp only[Na,D1,a!,f? (n:=a.N+b.N) U U]
 .refine MA.ite (v:=⟨a.a,0,a.N-b.N⟩) (e:=0) c (λ_=>?_);rw[py U];simp only[Na,u!,F!,D1,u4,t!,a!,f? (n:=a.N-b.N) U U]
theorem yX{env:ic}(c:op=17\/op=18) (ha:Ia a) (hb:Ia b):MA (Sb ⟨op,N⟩ [a,b] env):=by
 have h1:=ha.range;have hk:(2<=a.a/\a.a<=5)↔((2<=a.a/\a.a<=4)\/a.a=5):=U
 have hal:ea ⟨op,N⟩ [a,b] env=M (s6 (yS a b/\2<=a.a/\a.a<=5)):=by
  rw[fE U];rcases c with rfl|rfl<;>simp only[Aa,u!,D1,u4,a!,Ng,Cc,VF,F!,t!,hk]
  all_goals grind
 have hco:yS a b/\2<=a.a/\a.a<=5->sa ⟨op,N⟩ [a,b] env=M ((if(op==17)=s6 (a.N<b.N)then a else b),0):=by
  intro hc;rw[py U];have he:=λh=>bw9 hc.1 h;rcases c with rfl|rfl<;>simp only[Na,Ψ,u!,F!,D1,u4,a!,t!]
  all_goals grind
 grind[MA.ite]
theorem zX{env:ic}(d:op=19\/op=20):MA (Sb ⟨op,N⟩ [a,b] env):=by
 have c:ea ⟨op,N⟩ [a,b] env=M (s6 (yS a b)):=by
  rw[fE U];rcases d with rfl|rfl<;>simp only[Aa,u!,D1,u4,a!,Ng,F!,t!]
 rcases d with rfl|rfl
 .refine MA.ite (v:=⟨1,0,if(a.N==b.N)=a38 then 1 else 0⟩) (e:=0) c (λ_=>?_)
  simp_all[Na,py,xf]
 .refine MA.ite (v:=⟨1,0,if(a.N !=b.N)=a38 then 1 else 0⟩) (e:=0) c (λ_=>?_)
  simp_all[Na,py,xf]
theorem AX{env:ic}(d:op=21\/op=22):MA (Sb ⟨op,N⟩ [a,b] env):=by
 have hk:(2<=a.a/\a.a<=5)↔((2<=a.a/\a.a<=4)\/a.a=5):=U
 have c:ea ⟨op,N⟩ [a,b] env=M (s6 (yS a b/\2<=a.a/\a.a<=5)):=by
  rw[fE U];rcases d with rfl|rfl<;>simp only[Aa,u!,D1,u4,a!,Ng,Cc,VF,F!,t!,hk]
  all_goals grind
 rcases d with rfl|rfl
 .refine MA.ite (v:=⟨1,0,if s6 (a.N<b.N)=a38 then 1 else 0⟩) (e:=0) c (λ_=>?_)
  simp_all[Na,py,xf]
 .refine MA.ite (v:=⟨1,0,if s6 (a.N<=b.N)=a38 then 1 else 0⟩) (e:=0) c (λ_=>?_)
  simp_all[Na,py,xf]
theorem BX{env:ic}(c:op=23\/op=24) (ha:Ia a) (hb:Ia b):MA (Sb ⟨op,N⟩ [a,b] env):=by
 have d:ea ⟨op,N⟩ [a,b] env=M (s6 (a.a=1/\b.a=1)):=by
  rw[fE U];rcases c with rfl|rfl<;>simp only[Aa,u!,D1,u4,a!,F!,t!]
  all_goals grind
 refine MA.ite (v:=⟨1,0,if(if op=23 then s6 (a.N=1/\b.N=1)else s6 (a.N=1\/b.N=1))=a38 then 1 else 0⟩) (e:=0) d λhc=>?_;have n1:=(WT ha hc.1).2;have n2:=(WT hb hc.2).2;rw[py U];rcases c with rfl|rfl<;>simp only[Na,u!,F!,D1,u4,t!,a!,xf]
 all_goals grind
theorem ad0{env:ic}(ha:Ia a) (hb:Ia b):MA (Sb ⟨27,N⟩ [a,b] env):=by
 have h1:=ha.range;have h2:=hb.range;have c:ea ⟨27,N⟩ [a,b] env=M (s6 (a.a=5/\b.a=2)):=by
  rw[fE U]
  grind[Aa]
 refine MA.ite (v:=⟨5,0,a.N+b.N⟩) (e:=0) c (λhc=>?_);rw[py U];simp only[Na,u!,F!,D1,u4,t!,a!,f? (n:=a.N+b.N) U U,hc.1]
theorem cC9(a:Int) (j:Int) (ha:0<=a/\a<=109572):∃p,qf a j=M p:=by
 by_cases hj:-3600<=j/\j<=3600
 .obtain⟨n,m,k,b⟩:=RF ha.1 ha.2;exact⟨_,Zs b hj⟩
 simp_all[qf,Zl]
theorem ac9{env:ic}(ha:Ia a):MA (Sb ⟨28,N⟩ [a,b] env):=by
 have c:ea ⟨28,N⟩ [a,b] env=M (s6 (a.a=5/\b.a=2)):=by
  rw[fE U]
  grind[Aa]
 by_cases hc:a.a=5/\b.a=2
 .obtain⟨p,p1⟩:=cC9 a.N b.N (bz1 ha hc.1);rw[s7 hc]at c;refine An (v:=⟨5,0,p.1⟩) (e:=p.2) c ?_
  simp_all[Na,py]
 grind[qz]
theorem CX{env:ic}(d:op=29\/op=30) (ha:Ia a) (hb:Ia b):MA (Sb ⟨op,N⟩ [a,b] env):=by
 have h1:=ha.range;have h2:=hb.range;have c:ea ⟨op,N⟩ [a,b] env=M (s6 (a.a=5/\b.a=5)):=by
  rw[fE U];rcases d with rfl|rfl<;>simp only[Aa,u!,D1,u4,a!,F!,t!]
  all_goals grind
 obtain⟨y,y1,-⟩:=ax7 a.N b.N;rcases d with rfl|rfl
 .refine MA.ite (v:=⟨2,0,b.N-a.N⟩) (e:=0) c (λhc=>?_);rw[py U];simp only[Na,u!,F!,D1,u4,t!,a!,f? (n:=b.N-a.N) U U]
 .refine MA.ite (v:=⟨2,0,y⟩) (e:=0) c (λhc=>?_)
  simp_all[Na,py]
structure cs1 (i:Nat) (st sk:List Int):Prop where
 len:st.length=i
 pos:0<i->sk≠[]
 zero:i=0->sk=[]
 last:∀k,k+1=sk.length->st[i-1]?=sk[k]?
 chain:∀j,j+1<sk.length->∃a b:Nat,sk[j]?=M (a:Int)/\sk[j+1]?=M (b:Int)/\a<b/\st[b-1]?=M (a:Int)
 bound:∀j,j<sk.length->∃a:Nat,sk[j]?=M (a:Int)/\a<i
theorem O0{e:List fr}(h:W! e):∀i,i<=e.length->cs1 i (Ui e i).1 (Ui e i).2
 |0,_=>by
  refine⟨rfl,U,λ_=>rfl,?_,?_,?_⟩
  all_goals grind[Ui]
 |i+1,hi=>by
  have d:=O0 h i U;obtain⟨a1,a2,a3⟩:=h.ar (i:=i) U;have o:Ui e (i+1)=((Ui e i).1++[if 0<Kj e i then((Ui e i).2[(Ui e i).2.length-Kj e i]?).getD 0 else(i:Int)],(Ui e i).2.take ((Ui e i).2.length-Kj e i)++[if 0<Kj e i then((Ui e i).2[(Ui e i).2.length-Kj e i]?).getD 0 else(i:Int)]):=rfl;rw[o];generalize (Ui e i).1=st at d⊢;generalize (Ui e i).2=sk at d a2⊢;generalize Kj e i=a at a2⊢;obtain⟨f,hf,hfi,m⟩:∃f:Nat,(if 0<a then(sk[sk.length-a]?).getD 0 else(i:Int))=(f:Int)/\f<=i/\(∀j,j+1=sk.length-a->∃b:Nat,sk[j]?=M (b:Int)/\b<f/\st[f-1]?=M (b:Int)):=by
   by_cases ha:0<a
   .obtain⟨f,h1,h2⟩:=d.bound (sk.length-a) U;refine⟨f,l5,U,λj hj=>?_⟩;obtain⟨x,y,l,g,k3,k4⟩:=d.chain j U
    grind
   .refine⟨i,U,U,λj hj=>?_⟩;obtain⟨x,l,g⟩:=d.bound j U;refine⟨x,l,g,?_⟩;rw[←l];exact d.last j U
  rw[hf];have c:(sk.take (sk.length-a)).length=sk.length-a:=o0
  refine⟨by simp[d.len],λ_=>o0,λh=>U,?_,?_,?_⟩
  .intro k hk;simp only[Τ,c,yab]at hk;rw[Lae,kac (by rw[d.len];omega),d.len,Fac,kac U,c,show k-(sk.length-a)=0 by omega]
  .intro j hj;simp only[Τ,c,yab]at hj;by_cases n:j+1<sk.length-a
   .obtain⟨x,y,l,g,k3,k4⟩:=d.chain j U;obtain⟨y',q1,q2⟩:=d.bound (j+1) U;rw[g]at q1;injection q1 with q1;refine⟨x,y,?_,?_,k3,?_⟩
    all_goals grind
   .obtain⟨x,l,g,k3⟩:=m j U;refine⟨x,f,?_,?_,g,?_⟩
    all_goals grind
  .intro j hj;simp only[Τ,c,yab]at hj;by_cases n:j<sk.length-a
   .obtain⟨x,l,g⟩:=d.bound j U
    grind
   grind
theorem pU{e:List fr}:∀{n i k:Nat},i<=n->k<i->(Ui e n).1[k]?=(Ui e i).1[k]?
 |0,i,k,h,hk=>U
 |n+1,i,k,h,hk=>by
  by_cases hin:i=n+1
  .simp_all
  .have:(Ui e (n+1)).1=(Ui e n).1++[if 0<(Kb (sd e n).Op).toNat then((Ui e n).2[(Ui e n).2.length-(Kb (sd e n).Op).toNat]?).getD 0 else(n:Int)]:=rfl;rw[this,List.getElem?_append_left (by grind[AJ])];exact pU U hk
def Cz(e:List fr) (i j:Nat):Nat:=if j+1=Kj e i then i-1 else(((Ui e i).2[(Ui e i).2.length-Kj e i+j+1]?).getD 0).toNat-1
def ML(e:List fr) (i:Nat):List Int:=(p! (Kj e i)).map λj=>(Cz e i j:Int)
theorem Wx{e:List fr}(h:W! e) {i:Nat}(hi:i<e.length) (hj:j<Kj e i):Cz e i j<i/\∃s:Nat,(Ui e e.length).1[Cz e i j]?=M (s:Int)/\(∀d,d+1=j->Cz e i d+1=s):=by
 have b:=O0 h i U;obtain⟨a1,a2,a3⟩:=h.ar hi;have hi0:0<i:=by
  rcases Vad i with l|l
  .have:=b.zero l;simp_all
  omega
 have g:Cz e i j<i/\∃s:Nat,(Ui e i).1[Cz e i j]?=M (s:Int)/\(Ui e i).2[(Ui e i).2.length-Kj e i+j]?=M (s:Int):=by
  unfold Cz;generalize (Ui e i).1=st at b⊢;generalize (Ui e i).2=sk at b a2⊢;generalize Kj e i=a at a2 hj⊢;by_cases c:j+1=a
  .rw[J c];obtain⟨x,k,m⟩:=b.bound (sk.length-a+j) U;exact⟨U,x,by rw[b.last (sk.length-a+j) U];omega,k⟩
  .rw[p6 c];obtain⟨x,y,k,m,k3,k4⟩:=b.chain (sk.length-a+j) U;obtain⟨y',q1,q2⟩:=b.bound (sk.length-a+j+1) U
   grind
 obtain⟨n,s,h2,h3⟩:=g;refine⟨n,s,by grind[pU],λd f=>?_⟩;subst f;obtain⟨x,y,k,m,k3,k4⟩:=b.chain ((Ui e i).2.length-Kj e i+d) U
 grind[Cz]
theorem qX{e:List fr}(h:W! e):∀{n k s:Nat},n<=e.length->(Ui e n).1[k]?=M (s:Int)->s<=k
 |0,k,s,_,a=>by grind[Ui]
 |n+1,k,s,hn,a=>by
  have hk:k<n+1:=by
   grind[AJ]
  by_cases b:k=n
  .subst b;have c:=O0 h (k+1) hn;have hne:=c.pos U;obtain⟨q,hq⟩:∃q,q+1=(Ui e (k+1)).2.length:=⟨(Ui e (k+1)).2.length-1,by grind[List.length_pos_iff]⟩;have d:=c.last q hq;rw[Lae,a]at d;obtain⟨x,k1,k2⟩:=c.bound q U
   grind
  .rw[pU (i:=n) U U]at a;exact qX h U a
theorem RH{e:List fr}(h:W! e):Vp e=((Ui e e.length).1,0,0):=by
 have:=h.pos;have:=h.le;have:=h.one;unfold Vp;rw[p6,p6,db.2 h.err]
 simp_all
theorem CW{e:List fr}(h:W! e) {i:Nat}(hi:i<e.length) {step:List Int×Int×Int->Option (Ex (List Int×Int×Int) (List Int) Unit)}
 (g:∀a b c,step (a,b,c)=if 0<=c then(c! a c).bind λ_=>(put a c b).bind λm=>(c! (Ui e e.length).1 b).bind λk=>M (.go (m,aa b! (k-1),aa b! (c-1)))else M (.brk a)) :
 ca step (k? (Kj e i) 0,(i:Int)-1,(Kj e i:Int)-1)=M (.inl (ML e i)):=by
 have hle:=h.le;obtain⟨a1,a2,a3⟩:=h.ar hi;have ha3:Kj e i<=12:=by have:=Nx (e:=e) (i:=i) λj hj=>h.err j U;omega
 refine Nc (λt=>(k? (Kj e i-t) 0++(ML e i).drop (Kj e i-t),(if t=0 then(i:Int)-1 else if t=Kj e i then(((Ui e e.length).1[Cz e i 0]?).getD 0)-1 else(Cz e i (Kj e i-t-1):Int)),(Kj e i:Int)-1-t)) (Kj e i) _ (λt ht=>?_) ?_ ?_
 .obtain⟨j,hj⟩:∃j,Kj e i=t+j+1:=⟨Kj e i-t-1,U⟩;obtain⟨o1,s,l,o3⟩:=Wx h hi (j:=j) U;rw[g];have d:(if t=0 then(i:Int)-1 else if t=Kj e i then(((Ui e e.length).1[Cz e i 0]?).getD 0)-1 else(Cz e i (Kj e i-t-1):Int))=(Cz e i j:Int):=by
   by_cases t0:t=0
   .grind[Cz]
   grind
  rw[d,J,show(Kj e i:Int)-1-t=((j:Nat):Int) by omega];have hL:(ML e i).length=Kj e i:=by simp[ML]
  rw[va (i:=j) o4,a!,oE o4,a!];rw[ao2,l,a!];have f:(k? (Kj e i-t) 0++(ML e i).drop (Kj e i-t)).set j (Cz e i j:Int)=k? (Kj e i-(t+1)) 0++(ML e i).drop (Kj e i-(t+1)):=by
   rw[show Kj e i-t=j+1 by omega,show Kj e i-(t+1)=j by omega,List.replicate_succ',P',Qac _ _ o0,Vab,Fac]
   grind[ML,lab]
  have hlt:Cz e i j<(Ui e e.length).1.length:=o4
  have g:(s:Int)-1=(if t+1=0 then(i:Int)-1 else if t+1=Kj e i then(((Ui e e.length).1[Cz e i 0]?).getD 0)-1 else(Cz e i (Kj e i-(t+1)-1):Int)):=by
   rw[p6];by_cases j0:j=0
   all_goals grind
  have hsb:(0:Int)<=s/\(s:Int)<=100:=by
   have:=qX h (x? _) l;omega
  rw[f,f? (n:=(s:Int)-1) U U,f? (n:=((j:Nat):Int)-1) U U,g];congr 4;omega
 .grind
 simp_all[ML]
theorem SC{e:List fr}(h:W! e) {i:Nat}(hi:i<e.length):ts e (i:Int)=M (ML e i):=by
 have hle:=h.le;obtain⟨a1,a2,a3⟩:=h.ar hi;have ha3:Kj e i<=12:=by have:=Nx (e:=e) (i:=i) λj hj=>h.err j U;omega
 have f:Kb (sd e i).Op=(Kj e i:Int):=by grind[Kj]
 unfold ts;rw[jw,RH h,a!];dsimp only;have d:(if(0:Int)=0 then if¬(i:Int)<0 then M (s6 ((e.length:Int)<=(i:Int)))else M a38 else M a38)=M a39:=by
  simp_all
 rw[d];simp only[a!,t!,u4];rw[va hi,a!,Nn hi,fy,a!,f,RA U U,a!,f? (n:=(i:Int)-1) U U,f? (n:=(Kj e i:Int)-1) U U,CW h hi λa b c=>by grind[fw]];rfl
theorem Hu{e:List fr}(h:W! e) {i:Nat}(hi:i<e.length) {env:ic}:Qf ⟨e,(Ui e e.length).1,env⟩ (i:Int)=M (ML e i):=by
 have hle:=h.le;obtain⟨a1,a2,a3⟩:=h.ar hi;have ha3:Kj e i<=12:=by have:=Nx (e:=e) (i:=i) λj hj=>h.err j U;omega
 have d:Kb (sd e i).Op=(Kj e i:Int):=by grind[Kj]
 unfold Qf;dsimp only;rw[va hi,a!,Nn hi,Bp,a!,d,RA U U,a!,Vab,f? (n:=(i:Int)-1) U U,f? (n:=(Kj e i:Int)-1) U U,CW h hi λa b c=>by grind[pk]];rfl
def CQ(e:List fr) (env:ic) (i:Nat):bz×Int:=((Ha (3*i+3)).1 e i env).getD (⟨0,0,0⟩,0)
structure Ι (e:List fr) (env:ic) (i:Nat):Prop where
 p:∀n,3*i+3<=n->(ba n).1 ⟨e,(Ui e e.length).1,env⟩ i=M (CQ e env i)
 r:∀n,3*i+3<=n->(Ha n).1 e i env=M (CQ e env i)
 ok:(CQ e env i).2=0->Ia (CQ e env i).1
theorem AW{e:List fr}{env:ic}{i:Nat}(q:bz×Int) (h1:∀n,3*i+3<=n->(ba n).1 ⟨e,(Ui e e.length).1,env⟩ i=M q) (h2:∀n,3*i+3<=n->(Ha n).1 e i env=M q) (h3:q.2=0->Ia q.1):Ι e env i:=by
 have:CQ e env i=q:=by simp_all[CQ]
 exact⟨l5,l5,l5⟩
theorem pH(e:List fr) (i:Nat):Kj e i<=3:=by
 grind[Kj,Kb]
def iE(e:List fr) (env:ic) (i:Nat):List bz:=(p! (Kj e i)).map λt=>(CQ e env (Cz e i t)).1
def LS(e:List fr) (env:ic) (i:Nat) (t:Nat):Option (bz×Int):=if¬(CQ e env (Cz e i t)).2=0 then M (⟨0,0,0⟩,(CQ e env (Cz e i t)).2)else s5
theorem cJ(e:List fr) (i:Nat):(ML e i).length=Kj e i:=by simp[ML]
theorem Iz{e:List fr}{i t:Nat}(h:t<Kj e i):c! (ML e i) (t:Int)=M ((Cz e i t:Nat):Int):=by
 grind[ML,va]
theorem nA{f:Nat->α}{k t:Nat}(h:t<k):((p! k).map f).take (t+1)=((p! k).map f).take t++[f t]:=by
 grind[N!]
theorem bs2{e:List fr}{env:ic}(h:W! e) {i:Nat}(hi:i<e.length) {n:Nat}(b:∀j,j<i->(ba n).1 ⟨e,(Ui e e.length).1,env⟩ j=M (CQ e env j)) :
 ca (qb ⟨e,(Ui e e.length).1,env⟩ (ML e i) (ba n).1) (k? (Kj e i) ⟨0,0,0⟩,0)=M (Rb (iE e env i) (ff (LS e env i) (Kj e i))):=by
 have hl:=cJ e i;have h3:=pH e i;refine Gb (step:=qb ⟨e,(Ui e e.length).1,env⟩ (ML e i) (ba n).1) (λt=>((iE e env i).take t++k? (Kj e i-t) ⟨0,0,0⟩,(t:Int))) (LS e env i) (Kj e i) (iE e env i) (λt ht _=>?_) (λ_=>?_) o0
 .obtain⟨c,-⟩:=Wx h hi ht;have a:(iE e env i).length=Kj e i:=by simp[iE]
  unfold qb;dsimp only;rw[J,Iz ht,a!,b _ c,a!];unfold LS;by_cases hc:(CQ e env (Cz e i t)).2=0
  .rw[p6 (v!.2 hc),p6 (v!.2 hc)];rw[va o4,a!,oE o4,a!,pa U];unfold mE;dsimp only;congr 3;rw[Qac _ _ o4,show t-((iE e env i).take t).length=0 by grind,show Kj e i-t=(Kj e i-(t+1))+1 by omega,Υ,fac]
   grind[iE,nA]
  .rw[J hc,J hc];rfl
 .unfold qb;dsimp only;rw[p6,Fac];have a:(iE e env i).length=Kj e i:=by simp[iE]
  grind
theorem bs1{e:List fr}{env:ic}(h:W! e) {i:Nat}(hi:i<e.length) {n:Nat}(a:∀j,j<i->(Ha n).1 e j env=M (CQ e env j)) :
 ca (Eo e env (ML e i) (Ha n).1) (([]:List bz),0)=M (Rb (iE e env i) (ff (LS e env i) (Kj e i))):=by
 have hl:=cJ e i;have h3:=pH e i;refine Gb (step:=Eo e env (ML e i) (Ha n).1) (λt=>((iE e env i).take t,(t:Int))) (LS e env i) (Kj e i) (iE e env i) (λt ht _=>?_) (λ_=>?_) o0
 .obtain⟨b,-⟩:=Wx h hi ht;unfold Eo;dsimp only;rw[J,Iz ht,a!,a _ b,a!];unfold LS;by_cases hc:(CQ e env (Cz e i t)).2=0
  .rw[p6 (v!.2 hc),p6 (v!.2 hc)]
   grind[mE,iE,Od,pa,nA]
  .rw[J hc,J hc];rfl
 .unfold Eo;dsimp only;have hlen:(iE e env i).length=Kj e i:=by simp[iE]
  grind
theorem Y3:(b? (α:=Bool) (if op=23 then M a38 else if op=24 then M a38 else M (op==26)) k)=k (s6 (op=23\/op=24\/op=26)):=by
 grind
theorem am8:(b? (α:=Bool) (if¬op=23 then if¬op=24 then M (op==26)else M a38 else M a38) k)=k (s6 (op=23\/op=24\/op=26)):=by
 grind
def du(p:bz×Int):bz×Int:=if¬p.2=0 then(⟨0,0,0⟩,p.2)else if p.1.a=1/\Ia p.1 then p else(⟨0,0,0⟩,8)
theorem cq9:(b? (α:=Bool) (if v.a=1 then(Vb v).bind λa=>M (!a)else M a38) k)=k (s6 (¬(v.a=1/\Ia v))):=by
 grind[Yz,wb]
theorem bq8:(b? (α:=Bool) (if v.a=1 then(Lb v).bind λa=>M (!a)else M a38) k)=k (s6 (¬(v.a=1/\Ia v))):=by
 grind[Yz,ee]
theorem au6{a:tk->Int->Option (bz×Int)}{b c}{x:tk}{j:Int}{p:bz×Int}(h:a x j=M p):jc a b c x j=M (du p):=by
 unfold jc du;rw[h,a!];simp only[cq9]
 grind
def EL(op N:Int) (a b c:bz×Int):bz×Int:=
 if¬N=0 then(⟨0,0,0⟩,2)else
 if¬(du a).2=0 then(⟨0,0,0⟩,(du a).2)else
 if op=26 then(if(du a).1.N=1 then b else c)else
 if(op==23)=((du a).1.N==0)then((du a).1,0)else du b
theorem lW{c a b:bz×Int}(h1:a.2=0->Ia a.1) (h2:b.2=0->Ia b.1):(EL op N c a b).2=0->Ia (EL op N c a b).1:=by
 grind[EL,du]
theorem aH7{e:List fr}(h:W! e) {env:ic}(hA:∀i,i<e.length->¬((sd e i).Op=23\/(sd e i).Op=24\/(sd e i).Op=26)->Bn (og (sd e i) (iE e env i) env) (Es (sd e i) (iE e env i) env)):∀i,i<e.length->Ι e env i:=by
 intro i
 induction i using lad with
 |_ i o=>
  intro hi;have hle:=h.le;have har:=h.ar hi;have hga:=pH e i;have k:=cJ e i;by_cases b:(sd e i).Op=23\/(sd e i).Op=24\/(sd e i).Op=26
  .have hk:2<=Kj e i/\((sd e i).Op=26->Kj e i=3):=by
    unfold Kj;rcases b with h|h|h<;>rw[h]<;>decide
   have B:=(Wx h hi (j:=0) U).1;have D:=(Wx h hi (j:=1) U).1;have z:=o _ B U;have l:=o _ D U;have A:c! (ML e i) 0=M ((Cz e i 0:Nat):Int):=Iz (t:=0) U;have y:c! (ML e i) 1=M ((Cz e i 1:Nat):Int):=Iz (t:=1) U;have g:(sd e i).Op=26->Ι e env (Cz e i 2)/\Cz e i 2<i/\c! (ML e i) 2=M ((Cz e i 2:Nat):Int):=λa=>by
    grind[Wx,Iz]
   refine AW (EL (sd e i).Op (sd e i).N (CQ e env (Cz e i 0)) (CQ e env (Cz e i 1)) (if(sd e i).Op=26 then CQ e env (Cz e i 2)else(⟨0,0,0⟩,1))) (λn hn=>?_) (λn hn=>?_) (lW l.ok (by
    split
    .rename_i a;exact(g a).1.ok
    omega))
   .obtain⟨n,rfl⟩:∃m,n=m+3:=⟨n-3,U⟩;show ib (ba (n+2)).1 (ba (n+2)).2.1 (ba (n+2)).2.2 _ _=_;unfold ib;dsimp only;rw[va hi,a!,Nn hi,Hu h hi,a!,Y3,s7 b,J rfl,wj];show Gd (ba (n+1)).1 (ba (n+1)).2.1 (ba (n+1)).2.2 _ _ _=_;unfold Gd EL;by_cases c:(sd e i).N=0
    case neg=>simp_all
    rw[p6 (v!.2 c),p6 (v!.2 c),A,a!];have s:∀j,j<i->Ι e env j->(ba (n+1)).2.2 ⟨e,(Ui e e.length).1,env⟩ (j:Int)=M (du (CQ e env j)):=λj hj hb=>(show jc (ba n).1 (ba n).2.1 (ba n).2.2 _ _=_ from au6 (hb.p n U));rw[s _ B z,a!];by_cases hc:(du (CQ e env (Cz e i 0))).2=0
    case neg=>simp_all
    rw[p6 (v!.2 hc),p6 (v!.2 hc)];by_cases a:(sd e i).Op=26
    .obtain⟨c1,c2,c3⟩:=g a;rw[J a,J a,a!,J a,J a];by_cases f:(du (CQ e env (Cz e i 0))).1.N=1
     .rw[J l5,J f,y,a!,wj];exact l.p (n+1) U
     .rw[p6 l5,p6 f,c3,a!,wj];exact c1.p (n+1) U
    grind
   .obtain⟨n,rfl⟩:∃m,n=m+3:=⟨n-3,U⟩;show yn (Ha (n+2)).1 (Ha (n+2)).2 _ _ _=_;unfold yn;rw[SC h hi,a!,va hi,a!,Nn hi,am8,s7 b,J rfl,wj];show ow (Ha (n+1)).1 (Ha (n+1)).2 _ _ _ _=_;unfold ow EL;rw[va hi,a!,Nn hi];by_cases c:(sd e i).N=0
    case neg=>simp_all
    rw[p6 (v!.2 c),p6 (v!.2 c),A,a!,z.r (n+1) U,a!];simp only[bq8];obtain⟨d,w⟩:∃q,CQ e env (Cz e i 0)=q:=⟨_,rfl⟩;rw[w];by_cases c0:d.2=0
    case neg=>
     simp_all[du]
    rw[p6 (v!.2 c0)];by_cases c1:d.1.a=1/\Ia d.1
    case neg=>
     have:du d=(⟨0,0,0⟩,8):=by simp_all[du]
     simp_all
    have u:du d=d:=by simp_all[du]
    rw[w2 (p:=¬(d.1.a=1/\Ia d.1)) (λh=>h c1),p6 o0,u,p6 (v!.2 c0)];by_cases a:(sd e i).Op=26
    .obtain⟨d1,d2,C⟩:=g a;rw[J a,J a,J a];by_cases f:d.1.N=1
     .rw[J f,J f,y,a!,wj];exact l.r (n+1) U
     .rw[p6 f,p6 f,C,a!,wj];exact d1.r (n+1) U
    .rw[p6 a,p6 a];split
     .rfl
     .rw[y,a!,l.r (n+1) U,a!];obtain⟨q1,x⟩:∃q,CQ e env (Cz e i 1)=q:=⟨_,rfl⟩;rw[x];unfold du
      grind
  .obtain⟨q,q1,q2,q3⟩:=hA i hi b;have hff:∀v,ff (LS e env i) (Kj e i)=M v->v.2≠0:=by
    grind[LS,Qa]
   refine AW (match ff (LS e env i) (Kj e i)with|some v=>v|none=>q) (λn hn=>?_) (λn hn=>?_) ?_
   .obtain⟨n,rfl⟩:∃m,n=m+1:=⟨n-1,U⟩;show ib (ba n).1 (ba n).2.1 (ba n).2.2 _ _=_;unfold ib;dsimp only;rw[va hi,a!,Nn hi,Hu h hi,a!,Y3,w2 b,p6 o0,k,RA U U,a!,bs2 h hi (λj hj=>(o j hj U).p n U),a!]
    grind[BK,BZ]
   .obtain⟨n,rfl⟩:∃m,n=m+1:=⟨n-1,U⟩;show yn (Ha n).1 (Ha n).2 _ _ _=_;unfold yn;rw[SC h hi,a!,va hi,a!,Nn hi,am8,w2 b,p6 o0,bs1 h hi (λj hj=>(o j hj U).r n U),a!]
    grind[BK,BZ]
   grind
theorem av5{l:List bz}(hl:l.length<=1048576):qg l=M (l.all Yz):=by
 have e1:ca (Mc l) 0=M (Rb () (ff (λi=>if(l[i]?.any λv=>!Yz v)=a38 then M a39 else s5) l.length)):=
  Gb (λi=>(i:Int)) _ l.length () (λi hi _=>by
   unfold Mc;rw[J,va hi,n! hi]
   grind[mE,wb,pa]) (λ_=>by grind[Mc])
 unfold qg;rw[e1];by_cases h:l.all Yz=a38
 .have hn:∀i,i<l.length->(l[i]?.any λv=>!Yz v)=a39:=by
   grind
  rw[db.2 (λi hi=>o4),h];rfl
 .have hb:l.all Yz=a39:=o4
  obtain⟨x,hx,hx2⟩:∃x∈l,Yz x=a39:=by
   grind
  obtain⟨k,hk,rfl⟩:=H' hx;have ne:ff (λi=>if(l[i]?.any λv=>!Yz v)=a38 then M a39 else s5) l.length=M a39:=by
   cases hf:ff (λi=>if(l[i]?.any λv=>!Yz v)=a38 then M a39 else s5) l.length with
   |none=>
    grind[db]
   |some w=>
    grind[Qa]
  rw[ne,hb];rfl
theorem VU{env:ic}(ha:args.length<=3) (h:1<=n.Op/\n.Op<=39->Kb n.Op=args.length->wfS n=a38->Pw n env=a38->(∀a∈args,Ia a)->MA (Sb n args env)):MA (og n args env):=by
 unfold og;rw[jK,Bp,OB,av5 (l:=args) U];simp only[a!];have err:∀{c:Int},c≠0->MA (M (⟨0,0,0⟩,c)):=λh=>⟨_,rfl,λh2=>absurd h2 h⟩;by_cases i:1<=n.Op/\n.Op<=39
 case neg=>grind
 rw[s7 i];simp only[Ο];by_cases h2:wfS n=a38
 case neg=>grind
 rw[h2];simp only[D1];by_cases m:Kb n.Op=args.length
 case neg=>
  grind
 have:((args.length:Int) !=Kb n.Op)=a39:=o4
 rw[this];simp only[a!,t!,u4];by_cases j:Pw n env=a38
 case neg=>grind
 rw[j];simp only[P!,u4];by_cases k:args.all Yz=a38
 case neg=>grind
 rw[k];simp only[D1];have o:∀a∈args,Ia a:=λa ha=>D2 (R'.1 k a ha);have hc:=h i m h2 j o;have e1:(b? (α:=Bool) ((ea n args env).bind λf=>M (!f)) λe=>if e=a38 then M ((⟨0,0,0⟩:bz),(8:Int))else(sa n args env).bind λd=>if¬d.2=0 then M (⟨0,0,0⟩,d.2)else(Vb d.1).bind λg=>if g=a39 then M (⟨0,0,0⟩,3)else M (d.1,0))=Sb n args env:=by
  unfold Sb
  cases ea n args env with
  |none=>rfl
  |some b=>
   grind[wb]
 grind
def NM(e:List fr) (env:ic) (i:Nat):bz×Int:=((ba (3*i+3)).1 ⟨e,(Ui e e.length).1,env⟩ i).getD (⟨0,0,0⟩,0)
def UJ(e:List fr) (env:ic) (i:Nat):List bz:=(p! (Kj e i)).map λt=>(NM e env (Cz e i t)).1
def zY(e:List fr) (env:ic) (i:Nat) (t:Nat):Option (bz×Int):=if¬(NM e env (Cz e i t)).2=0 then M (⟨0,0,0⟩,(NM e env (Cz e i t)).2)else s5
def evQ(e:List fr) (env:ic) (i:Nat):bz×Int:=
 if(sd e i).Op=23\/(sd e i).Op=24\/(sd e i).Op=26 then
  EL (sd e i).Op (sd e i).N (NM e env (Cz e i 0)) (NM e env (Cz e i 1)) (if(sd e i).Op=26 then NM e env (Cz e i 2)else(⟨0,0,0⟩,1))
 else match ff (zY e env i) (Kj e i)with
  |some v=>v
  |none=>(og (sd e i) (UJ e env i) env).getD (⟨0,0,0⟩,0)
structure Y? (e:List fr) (env:ic) (i:Nat):Prop where
 p:∀n,3*i+3<=n->(ba n).1 ⟨e,(Ui e e.length).1,env⟩ i=M (NM e env i)
 ok:(NM e env i).2=0->Ia (NM e env i).1
 q:NM e env i=evQ e env i
variable {i:Nat}{e:List fr}{env:ic}
theorem BW(h1:∀n,3*i+3<=n->(ba n).1 ⟨e,(Ui e e.length).1,env⟩ i=M (evQ e env i)) (h3:(evQ e env i).2=0->Ia (evQ e env i).1):Y? e env i:=by
 have:NM e env i=evQ e env i:=by
  grind[NM]
 exact⟨o4,o4,this⟩
theorem aR6(h:W! e) (hi:i<e.length) {n:Nat}(b:∀j,j<i->(ba n).1 ⟨e,(Ui e e.length).1,env⟩ j=M (NM e env j)) :
 ca (qb ⟨e,(Ui e e.length).1,env⟩ (ML e i) (ba n).1) (k? (Kj e i) ⟨0,0,0⟩,0)=M (Rb (UJ e env i) (ff (zY e env i) (Kj e i))):=by
 have hl:=cJ e i;have h3:=pH e i;refine Gb (step:=qb ⟨e,(Ui e e.length).1,env⟩ (ML e i) (ba n).1) (λt=>((UJ e env i).take t++k? (Kj e i-t) ⟨0,0,0⟩,(t:Int))) (zY e env i) (Kj e i) (UJ e env i) (λt ht _=>?_) (λ_=>?_) o0
 .obtain⟨c,-⟩:=Wx h hi ht;have a:(UJ e env i).length=Kj e i:=by simp[UJ]
  unfold qb;dsimp only;rw[J,Iz ht,a!,b _ c,a!];unfold zY;by_cases hc:(NM e env (Cz e i t)).2=0
  .rw[p6 (v!.2 hc),p6 (v!.2 hc)];rw[va o4,a!,oE o4,a!,pa U];unfold mE;dsimp only;congr 3;rw[Qac _ _ o4,show t-((UJ e env i).take t).length=0 by grind,show Kj e i-t=(Kj e i-(t+1))+1 by omega,Υ,fac]
   grind[UJ,nA]
  .rw[J hc,J hc];rfl
 .unfold qb;dsimp only;rw[p6,Fac];have a:(UJ e env i).length=Kj e i:=by simp[UJ]
  grind
theorem bg3(h:W! e) (hA:∀i,i<e.length->¬((sd e i).Op=23\/(sd e i).Op=24\/(sd e i).Op=26)->MA (og (sd e i) (UJ e env i) env)):∀i,i<e.length->Y? e env i:=by
 intro i
 induction i using lad with
 |_ i k=>
  intro hi;have hle:=h.le;have har:=h.ar hi;have hga:=pH e i;have f:=cJ e i;by_cases b:(sd e i).Op=23\/(sd e i).Op=24\/(sd e i).Op=26
  .have hk:2<=Kj e i/\((sd e i).Op=26->Kj e i=3):=by
    unfold Kj;rcases b with h|h|h<;>rw[h]<;>decide
   have r:=(Wx h hi (j:=0) U).1;have x:=(Wx h hi (j:=1) U).1;have s:=k _ r U;have l:=k _ x U;have u:c! (ML e i) 0=M ((Cz e i 0:Nat):Int):=Iz (t:=0) U;have w:c! (ML e i) 1=M ((Cz e i 1:Nat):Int):=Iz (t:=1) U;have d:(sd e i).Op=26->Y? e env (Cz e i 2)/\Cz e i 2<i/\c! (ML e i) 2=M ((Cz e i 2:Nat):Int):=λa=>by
    grind[Wx,Iz]
   have hq:evQ e env i=_:=J b;refine BW (λn hn=>?_) (by
    rw[hq];exact lW l.ok (by
     split
     .rename_i a;exact(d a).1.ok
     omega))
   rw[hq];obtain⟨n,rfl⟩:∃m,n=m+3:=⟨n-3,U⟩;show ib (ba (n+2)).1 (ba (n+2)).2.1 (ba (n+2)).2.2 _ _=_;unfold ib;dsimp only;rw[va hi,a!,Nn hi,Hu h hi,a!,Y3,s7 b,J rfl,wj];show Gd (ba (n+1)).1 (ba (n+1)).2.1 (ba (n+1)).2.2 _ _ _=_;unfold Gd EL;by_cases c:(sd e i).N=0
   case neg=>grind
   rw[p6 (v!.2 c),p6 (v!.2 c),u,a!];have g:∀j,j<i->Y? e env j->(ba (n+1)).2.2 ⟨e,(Ui e e.length).1,env⟩ (j:Int)=M (du (NM e env j)):=λj hj hb=>(show jc (ba n).1 (ba n).2.1 (ba n).2.2 _ _=_ from au6 (hb.p n U));rw[g _ r s,a!];by_cases hc:(du (NM e env (Cz e i 0))).2=0
   case neg=>grind
   rw[p6 (v!.2 hc),p6 (v!.2 hc)];by_cases a:(sd e i).Op=26
   .obtain⟨c1,c2,c3⟩:=d a;rw[J a,J a,a!,J a,J a];by_cases o:(du (NM e env (Cz e i 0))).1.N=1
    .rw[J o4,J o,w,a!,wj];exact l.p (n+1) U
    .rw[p6 o4,p6 o,c3,a!,wj];exact c1.p (n+1) U
   grind
  .obtain⟨q,q1,q3⟩:=hA i hi b;have hff:∀v,ff (zY e env i) (Kj e i)=M v->v.2≠0:=by
    grind[zY,Qa]
   have hq:evQ e env i=(match ff (zY e env i) (Kj e i)with|some v=>v|none=>q):=by
    grind[evQ]
   refine BW (λn hn=>?_) ?_
   .rw[hq];obtain⟨n,rfl⟩:∃m,n=m+1:=⟨n-1,U⟩;show ib (ba n).1 (ba n).2.1 (ba n).2.2 _ _=_;unfold ib;dsimp only;rw[va hi,a!,Nn hi,Hu h hi,a!,Y3,w2 b,p6 o0,f,RA U U,a!,aR6 h hi (λj hj=>(k j hj U).p n U),a!]
    grind[BK,BZ]
   grind
theorem bu5(h:W! e) (hb:Y? e env (e.length-1)):Ql e env=M (NM e env (e.length-1))/\((NM e env (e.length-1)).2=0->Ia (NM e env (e.length-1)).1):=by
 have hf:1000000<=eg:=by grind[eg]
 have hp:=h.pos;have hle:=h.le;unfold Ql rv;rw[vt];simp only[a!];rw[RH h];have e1:aa b! ((e.length:Int)-1)=((e.length-1:Nat):Int):=by grind[f?]
 unfold Aj;rw[e1];dsimp only;rw[p6 p5,hb.p _ U];exact⟨rfl,hb.ok⟩
def jH(t0 t1:List Int) (i:Nat):Option Int:=
 match t0[i]?,t1[i]? with
 |some p,M q=>if p < -1\/(i:Int)<=p then M 9 else if q<0\/9<q then M 3 else s5
 |_,_=>s5
def GJ(t0 t1:List Int):Int:=
 if¬(t0.length:Int)=(t1.length:Int)then 2 else if 8<(t0.length:Int)then 4 else
 match ff (jH t0 t1) t0.length with|some v=>v|none=>0
theorem OQ{a b:Prop} [Decidable a] [Decidable b] :(b? (α:=Bool) (if¬a then M (decide b)else M a38) k)=k (s6 (a\/b)):=by
 grind
theorem IG(t0 t1:List Int):Xm t0 t1=M (GJ t0 t1):=by
 unfold Xm GJ;by_cases hl:(t0.length:Int)=(t1.length:Int)
 case neg=>simp_all
 rw[p6 (v!.2 hl),p6 (v!.2 hl)];by_cases a:8<(t0.length:Int)
 .simp_all
 rw[p6 a,p6 a];have e1:ca (Ri t0 t1) 0=M (Rb () (ff (jH t0 t1) t0.length)):=
  Gb (λi=>(i:Int)) _ t0.length () (λi hi _=>by
   unfold Ri jH;rw[J,va hi,n! hi,n! (l:=t1) U];dsimp only;rw[a!,OQ,va (l:=t1) U,a!,OQ,pa U]
   grind[mE]) (λ_=>by grind[Ri])
 rw[e1];cases ff (jH t0 t1) t0.length<;>rfl
theorem NK(t0 t1:List Int):Gs t0 t1=M (GJ t0 t1):=by
 unfold Gs GJ;by_cases hl:(t0.length:Int)=(t1.length:Int)
 case neg=>simp_all
 rw[p6 (v!.2 hl),p6 (v!.2 hl)];by_cases a:8<(t0.length:Int)
 .simp_all
 rw[p6 a,p6 a];have e2:ca (Fm t0 t1) 0=M (Rb () (ff (jH t0 t1) t0.length)):=
  Gb (λi=>(i:Int)) _ t0.length () (λi hi _=>by
   unfold Fm jH;rw[J,va hi,n! hi,n! (l:=t1) U];dsimp only;rw[a!,OQ,va (l:=t1) U,a!,OQ,pa U]
   grind[mE]) (λ_=>by grind[Fm])
 rw[e2];cases ff (jH t0 t1) t0.length<;>rfl
structure J! (t0 t1:List Int):Prop where
 len:t0.length=t1.length
 le:t0.length<=8
 par:∀i (h:i<t0.length),-1<=t0[i]/\t0[i]<(i:Int)
variable {t1 t0:List Int}
theorem BS(h:GJ t0 t1=0):J! t0 t1:=by
 unfold GJ at h;by_cases hl:(t0.length:Int)=(t1.length:Int)
 case neg=>omega
 rw[p6 (v!.2 hl)]at h;by_cases a:8<(t0.length:Int)
 .omega
 rw[p6 a]at h;refine⟨U,U,λi hi=>?_⟩;have hn:ff (jH t0 t1) t0.length=s5:=by
  grind[jH,Qa]
 grind[jH,db]
def q7(t0:List Int) (at_:Int):Nat->List Int
 |0=>[]
 |n+1=>if t0[n]?=M at_ then q7 t0 at_ n++[(n:Int)]else q7 t0 at_ n
def NG(t0:List Int) (at_:Int):List Int:=q7 t0 at_ t0.length
theorem pI(t0:List Int) (a:Int):∀n,(q7 t0 a n).length<=n
 |0=>by simp[q7]
 |n+1=>by
  have:=pI t0 a n
  grind[q7]
theorem qI{t0:List Int}{a x:Int}:∀{n:Nat},x∈q7 t0 a n->∃k:Nat,x=(k:Int)/\k<n/\t0[k]?=M a
 |0,h=>by grind[q7]
 |n+1,h=>by
  unfold q7 at h;split at h
  .rename_i hn;rcases Z?.1 h with h|h
   .obtain⟨k,a1,a2,a3⟩:=qI h;grind
   grind
  .obtain⟨k,a1,a2,a3⟩:=qI h;grind
theorem HG(hl:t0.length<=1048576) (a:Int):Wm t0 a=M (NG t0 a):=by
 have step:ca (Qi t0 a) (([]:List Int),0)=M (.inl (NG t0 a)):=by
  refine Nc (λi=>(q7 t0 a i,(i:Int))) t0.length _ (λi hi=>?_) ?_ rfl
  .have h1:=pI t0 a i;unfold Qi;dsimp only;rw[J,va hi,a!,pa U];simp only[q7,n! hi,T'];by_cases hc:t0[i]=a
   .rw[J hc,J hc,Od o4];rfl
   simp_all
  grind[Qi,NG]
 grind[Wm]
theorem LK(hl:t0.length<=1048576) (a:Int):Fs t0 a=M (NG t0 a):=by
 have step:ca (Em t0 a) (([]:List Int),0)=M (.inl (NG t0 a)):=by
  refine Nc (λi=>(q7 t0 a i,(i:Int))) t0.length _ (λi hi=>?_) ?_ rfl
  .have h1:=pI t0 a i;unfold Em;dsimp only;rw[J,va hi,a!,pa U];simp only[q7,n! hi,T'];by_cases hc:t0[i]=a
   .rw[J hc,J hc,Od o4];rfl
   simp_all
  grind[Em,NG]
 grind[Fs]
def pri(t1:List Int) (x:Int):Int:=(t1[x.toNat]?).getD 0
def EE(t1:List Int) (out:Int->Int) (acc:List Int) (x:Int):List Int:=
 if out x = -1 then acc else
 match acc with
 |[]=>[x]
 |y::l=>if pri t1 y<pri t1 x then [x]else if pri t1 x=pri t1 y then y::l++[x]else y::l
def cA(t1:List Int) (out:Int->Int) (l:List Int):List Int:=l.foldl (EE t1 out) []
theorem oC:∀x∈cA t1 out l,x∈l:=by
 have:∀(l acc:List Int),∀x∈l.foldl (EE t1 out) acc,x∈acc\/x∈l:=by
  intro l
  induction l with
  |nil=>simp
  |cons y l a=>
   intro acc x hx;rcases a _ x hx with h|h
   .unfold EE at h
    grind
   simp_all
 intro x hx;rcases this l [] x hx with h|h
 all_goals simp_all
theorem V6(t1:List Int) (out:Int->Int) (l:List Int):(cA t1 out l).length<=l.length:=by
 have:∀(l acc:List Int),(l.foldl (EE t1 out) acc).length<=acc.length+l.length:=by
  intro l
  induction l with
  |nil=>simp
  |cons y l a=>
   intro acc;refine N? (a _) ?_;have:(EE t1 out acc y).length<=acc.length+1:=by
    unfold EE
    grind
   grind
 have h:=this l [];rw[M!,Y!]at h;exact h
theorem BY:cA t1 out (l++[x])=EE t1 out (cA t1 out l) x:=by simp[cA]
theorem ZU{o a:Int->Int}(h:∀x∈l,o x=a x):cA t1 o l=cA t1 a l:=by
 have:∀(l acc:List Int),(∀x∈l,o x=a x)->l.foldl (EE t1 o) acc=l.foldl (EE t1 a) acc:=by
  intro l
  induction l with
  |nil=>simp
  |cons y l ih=>
   simp_all[EE]
 exact this l [] h
theorem lR(hl:l.length<=100) (hm:∀x∈l,0<=x/\x<(t1.length:Int)) {g:Int->Option Int}(C:∀x∈l,g x=M (out x)) {mt:List Int->Option (List Int)}(j:∀q,mt q=M [])
 (D:∀a b,step (a,b)=if b<(l.length:Int)then
  b? (α:=(List Int)) (
   (c! l b).bind λh=>(g h).bind λE=>if E=(-1)then M a else
   b? (α:=(List Int)) (b? (α:=Bool) (if 0<(a.length:Int)then(c! t1 h).bind λF=>(c! a 0).bind λp=>(c! t1 p).bind λs=>M (s6 (s<F))else M a39) λm=>if m=a38 then mt a else M a) λc=>
   b? (α:=Bool) (if¬(c.length:Int)=0 then(c! t1 h).bind λt=>(c! c 0).bind λu=>(c! t1 u).bind λv=>M (t==v)else M a38) λn=>
   if n=a38 then(app 8 c ([h])).bind λw=>M w else M c) λo=>M (i! (o,(aa b! (b+1))))
  else M (i? a)):ca step (([]:List Int),0)=M (.inl (cA t1 out l)):=by
 refine Nc (λi=>(cA t1 out (l.take i),(i:Int))) l.length _ (λi hi=>?_) ?_ rfl
 .have B:=V6 t1 out (l.take i);have h2:(l.take i).length<=l.length:=o4
  have d:∀y∈cA t1 out (l.take i),0<=y/\y<(t1.length:Int):=λy z=>hm y (Rab (oC y z));rw[D,J,va hi,a!,C _ (y! hi),a!,pa U,N!,n! hi];have hx:=hm _ (y! hi);simp only[Option.toList_some,BY];generalize l[i]=x at hx⊢;have k:c! t1 x=M (pri t1 x):=by grind[pri,nh]
  generalize cA t1 out (l.take i)=acc at B d⊢;unfold EE;by_cases ho:out x = -1
  .simp_all
  rw[p6 ho,p6 ho];rcases acc with _|⟨y,r⟩
  .simp_all[Od]
  .have z:=d y o0;have f:c! t1 y=M (pri t1 y):=by grind[pri,nh]
   have A:∀(q:List Int),c! (y::q) 0=M y:=λq=>by simp[c!]
   dsimp only;rw[J o0,k,A,a!,a!,f,a!,a!];by_cases e:pri t1 y<pri t1 x
   .rw[J l5,j,a!,p6 o0,a!,J rfl,Od o0,J e];rfl
   .rw[p6 l5,a!,J o4,a!,A,a!,f,a!,a!,p6 e];by_cases he:pri t1 x=pri t1 y
    .rw[J l5,J he,Od o4];rfl
    simp_all
 simp_all
def CU(t1:List Int) (out:Int->Int) (l:List Int):Int:=
 match cA t1 out l with
 |[]=>-1
 |[x]=>out x
 |_=>-2
theorem p9{o a:Int->Int}(h:∀x∈l,o x=a x):CU t1 o l=CU t1 a l:=by
 grind[CU,ZU,oC]
def oc(t0 t1:List Int) (t2:List Bool):Nat->Int->Int
 |0,_=>-1
 |k+1,i=>if CU t1 (oc t0 t1 t2 k) (NG t0 i) = -1/\(t2[i.toNat]?).getD a39=a38 then i else CU t1 (oc t0 t1 t2 k) (NG t0 i)
theorem FN(h:J! t0 t1) {i:Int}(hx:x∈NG t0 i):i<x/\0<=x/\x<(t0.length:Int):=by
 obtain⟨k,rfl,hk,hp⟩:=qI hx;have:=h.par k hk
 simp_all
theorem n9(h:J! t0 t1):∀(d:Nat) (i:Int),0<=i->(t0.length:Int)-i<=d->∀k a:Nat,(t0.length:Int)-i<=k->(t0.length:Int)-i<=a->i<t0.length->oc t0 t1 t2 k i=oc t0 t1 t2 a i:=by
 intro d
 induction d with
 |zero=>omega
 |succ d ih=>
  intro i h0 hd k a hk hk' hi;obtain⟨k,rfl⟩:∃m,k=m+1:=⟨k-1,U⟩;obtain⟨a,rfl⟩:∃m,a=m+1:=⟨a-1,U⟩;have:CU t1 (oc t0 t1 t2 k) (NG t0 i)=CU t1 (oc t0 t1 t2 a) (NG t0 i):=p9 λx hx=>by
   have:=FN h hx
   grind
  grind[oc]
def O(t0 t1:List Int) (t2:List Bool) (i:Int):Int:=oc t0 t1 t2 t0.length i
theorem cs4(h:J! t0 t1) {i:Int}(a:0<=i) (b:i<t0.length):O t0 t1 t2 i=if CU t1 (O t0 t1 t2) (NG t0 i) = -1/\(t2[i.toNat]?).getD a39=a38 then i else CU t1 (O t0 t1 t2) (NG t0 i):=by
 unfold O;rw[n9 h t0.length i a U t0.length (t0.length+1) U U b];rfl
def lU(t0 t1:List Int) (t2:List Bool):Int:=if GJ t0 t1=0/\t2.length=t0.length then CU t1 (O t0 t1 t2) (NG t0 (-1))else -1
theorem ZI{out:List Int}(h:J! t0 t1) {f:Int->Int}{i:Int}(ho:∀x∈NG t0 i,c! out x=M (f x)):pc ⟨t0,t1,out⟩ i=M (CU t1 f (NG t0 i)):=by
 have hle:=h.le;have hlen:=h.len;have hcl:=pI t0 i t0.length;unfold pc Rp;dsimp only;rw[HG U i,a!];have hb:=lR (t1:=t1) (out:=f) (l:=NG t0 i) (by grind[NG]) (λx hx=>by have:=FN h hx;omega) (step:=Kl ⟨t0,t1,out⟩ (NG t0 i)) (g:=λx=>c! out x) ho (mt:=λq=>(Jw q 0).bind λc=>M c) (λq=>by rw[show(0:Int)=((0:Nat):Int)from rfl,CB U];rfl) (λa b=>by grind[Kl]);rw[hb];simp only[a!];unfold CU;have d:=oC (t1:=t1) (out:=f) (l:=NG t0 i);generalize cA t1 f (NG t0 i)=r at d⊢;rcases r with _|⟨x,_|⟨y,q⟩⟩
 all_goals grind[c!]
theorem CZ(h:J! t0 t1) (h2:t2.length=t0.length):Ym t0 t1 t2=M ((p! t0.length).map λ(k:Nat)=>O t0 t1 t2 (k:Int)):=by
 have hle:=h.le;unfold Ym;rw[RA U U,a!,f? U U];have hl:ca (Si t0 t1 t2) (k? t0.length 0,(t0.length:Int)-1)=M (.inl ((p! t0.length).map λ(k:Nat)=>O t0 t1 t2 (k:Int))):=by
  refine Nc (λt=>((p! t0.length).map (λ(k:Nat)=>if k<t0.length-t then 0 else O t0 t1 t2 (k:Int)),(t0.length:Int)-1-t)) t0.length _ (λt ht=>?_) ?_ ?_
  .obtain⟨j,hj⟩:∃j,t0.length=t+j+1:=⟨t0.length-t-1,U⟩;have f:(t0.length:Int)-1-t=(j:Int):=U
   have b:t0.length-t=j+1:=U
   have c:t0.length-(t+1)=j:=U
   skip
   rw[f,b,c];unfold Si;dsimp only;rw[J];have d:pc ⟨t0,t1,(p! t0.length).map (λ(k:Nat)=>if k<j+1 then 0 else O t0 t1 t2 (k:Int))⟩ (j:Int)=M (CU t1 (O t0 t1 t2) (NG t0 (j:Int))):=by
    refine ZI h λx hx=>?_;have:=FN h hx;obtain⟨k,rfl⟩:=V' this.2.1;rw[va o4]
    grind
   rw[d,a!,va o4,a!,oE o4,a!];rw[va o4];simp only[List.getElem_set_self,a!];have e:=cs4 (t2:=t2) h (i:=(j:Int)) U U;rw[cac,n! U]at e;simp only[Option.getD_some]at e;have a:∀v,v=O t0 t1 t2 (j:Int)->((p! t0.length).map (λ(k:Nat)=>if k<j+1 then 0 else O t0 t1 t2 (k:Int))).set j v=(p! t0.length).map (λ(k:Nat)=>if k<j then 0 else O t0 t1 t2 (k:Int)):=by
    intro v hv;apply bac
    all_goals grind
   have hw:aa b! ((j:Int)-1)=(t0.length:Int)-1-((t+1:Nat):Int):=by grind[f?]
   by_cases hm:CU t1 (O t0 t1 t2) (NG t0 (j:Int)) = -1
   .rw[J hm,va (l:=t2) U,a!,a!];by_cases ha:t2[j]' U=a38
    .rw[J ha,oE o4,a!,a!,List.set_set,a _ l5,hw]
    simp_all
   simp_all
  .grind[Si]
  ·((try dsimp only))
   rw[Nat.sub_zero];congr 1
   .apply bac
    all_goals simp_all
   .simp
 simp_all
theorem Gw(t0 t1:List Int) (t2:List Bool):Hq t0 t1 t2=M (lU t0 t1 t2):=by
 unfold Hq lU;rw[IG t0 t1,a!];by_cases hv:GJ t0 t1=0
 case neg=>simp_all
 rw[J hv,a!];by_cases h2:t2.length=t0.length
 case neg=>grind
 have h:=BS hv;rw[p6 l5,J ⟨hv,h2⟩,CZ h h2,a!,ZI h (f:=O t0 t1 t2) λx hx=>by
  have:=FN h hx;obtain⟨k,rfl⟩:=V' this.2.1
  grind[va]]
 rfl
theorem bx6(h:J! t0 t1) {n:Nat}{i:Int}(ho:∀x∈NG t0 i,(ja n).2.2 t0 t1 t2 x=M (O t0 t1 t2 x)):(ja (n+1)).2.1 t0 t1 t2 i=M (cA t1 (O t0 t1 t2) (NG t0 i)):=by
 have hle:=h.le;have hlen:=h.len;have hcl:=pI t0 i t0.length;show qw (ja n).1 (ja n).2.1 (ja n).2.2 _ _ _ _=_;unfold qw;rw[LK U i,a!];have hb:=lR (t1:=t1) (out:=O t0 t1 t2) (l:=NG t0 i) (by grind[NG]) (λx hx=>by have:=FN h hx;omega) (step:=gy t0 t1 t2 (NG t0 i) (ja n).2.2) (g:=λx=>(ja n).2.2 t0 t1 t2 x) ho (mt:=λq=>M []) (λq=>rfl) (λa b=>by grind[gy])
 simp_all
theorem aU8(h:J! t0 t1) {n:Nat}{i:Int}(ho:∀x∈NG t0 i,∀m,n<=m->(ja m).2.2 t0 t1 t2 x=M (O t0 t1 t2 x)):(ja (n+2)).1 t0 t1 t2 i=M (CU t1 (O t0 t1 t2) (NG t0 i)):=by
 show Fo (ja (n+1)).1 (ja (n+1)).2.1 (ja (n+1)).2.2 _ _ _ _=_;unfold Fo;rw[bx6 h λx hx=>ho x hx n (x? _),a!];unfold CU;have a:=oC (t1:=t1) (out:=O t0 t1 t2) (l:=NG t0 i);generalize cA t1 (O t0 t1 t2) (NG t0 i)=r at a⊢;rcases r with _|⟨x,_|⟨y,q⟩⟩
 all_goals grind[c!]
theorem bd7(h:J! t0 t1) (h2:t2.length=t0.length):∀(d:Nat) (i:Int),0<=i->i<t0.length->(t0.length:Int)-i<=d->∀n,3*d<=n->(ja n).2.2 t0 t1 t2 i=M (O t0 t1 t2 i):=by
 intro d
 induction d with
 |zero=>omega
 |succ d ih=>
  intro i a b hd n hn;obtain⟨n,rfl⟩:∃m,n=m+3:=⟨n-3,U⟩;show vq (ja (n+2)).1 (ja (n+2)).2.1 (ja (n+2)).2.2 _ _ _ _=_;unfold vq;rw[aU8 h λx hx m hm=>by
   have:=FN h hx
   grind]
  rw[a!,cs4 h a b];obtain⟨j,rfl⟩:=V' a;rw[va U,cac,n! U]
  grind
theorem nP(t0 t1:List Int) (t2:List Bool):pw t0 t1 t2=M (lU t0 t1 t2):=by
 have hf:1000000<=eg:=by grind[eg]
 unfold pw lU;rw[NK t0 t1,a!];by_cases hv:GJ t0 t1=0
 case neg=>simp_all
 rw[J hv,a!];by_cases h2:t2.length=t0.length
 case neg=>grind
 have h:=BS hv;rw[p6 l5,J ⟨hv,h2⟩];unfold sw;obtain⟨n,hn⟩:∃n,eg=n+2:=⟨eg-2,U⟩;rw[hn,aU8 h λx hx m hm=>by
  have:=FN h hx;have:=h.le;exact bd7 h h2 t0.length x U U U m U]
 rfl
section
variable {rules:List kv} {q:kv->Bool}
def YL(rules:List kv) (q:kv->Bool) (j:Nat):Int:=
 match rules[j]? with
 |none=>-1
 |some r=>if 0<=r.am/\r.am<(j:Int)then((Gf rules q j).2.2[r.am.toNat]?).getD 0 else -1
def nv(rules:List kv) (q:kv->Bool) (j:Nat):Int:=
 match rules[j]? with
 |none=>0
 |some r=>if q r=a38 then((Gf rules q j).1.length:Int)else YL rules q j
theorem XC(hi:i<rules.length):Gf rules q (i+1)=if q rules[i]=a38 then((Gf rules q i).1++[(i:Int)],(Gf rules q i).2.1++[YL rules q i],((Gf rules q i).2.2.set i (YL rules q i)).set i ((Gf rules q i).1.length:Int))else((Gf rules q i).1,(Gf rules q i).2.1,(Gf rules q i).2.2.set i (YL rules q i)):=by
 grind[Gf,YL]
theorem JL:∀i,i<=rules.length->∀j,j<i->(Gf rules q i).2.2[j]?=M (nv rules q j)
 |0,_,j,h=>U
 |i+1,hi,j,hj=>by
  have hl:=(Fw (rules:=rules) (q:=q) i).1;have ih:=JL i U
  grind[nv,XC]
theorem bs6(hj:j<rules.length):YL rules q j=if 0<=rules[j].am/\rules[j].am<(j:Int)then nv rules q rules[j].am.toNat else -1:=by
 grind[YL,JL]
theorem N5:∀i,i<=rules.length->∀j (hj:j<i) (h:j<rules.length),q rules[j]=a38->(Gf rules q i).1[(Gf rules q j).1.length]?=M (j:Int)
 |0,_,j,hj,_,_=>U
 |i+1,hi,j,hj,h,hq=>by
  rw[XC U];rcases Κ j i with a|hge
  .have ih:=N5 i U j a h hq
   grind
  grind
theorem qJ:∀i,i<=rules.length->∀x∈(Gf rules q i).1,∃(j:Nat) (h:j<rules.length),x=(j:Int)/\j<i/\q rules[j]=a38
 |0,_,x,hx=>by grind[Gf]
 |i+1,hi,x,hx=>by
  rw[XC U]at hx;split at hx
  .rename_i hq;rcases Z?.1 hx with h|h
   .obtain⟨j,a,b,c,d⟩:=qJ i U x h;grind
   grind
  .obtain⟨j,a,b,c,d⟩:=qJ i U x hx;grind
theorem L5:∀i,i<=rules.length->(Gf rules q i).1.Pairwise (·<·)
 |0,_=>by simp[Gf]
 |i+1,hi=>by
  have d:=L5 i U;rw[XC U];split
  .rw[List.pairwise_append];refine⟨d,o0,λa ha b hb=>?_⟩;obtain⟨j,_,rfl,c,_⟩:=qJ i U a ha
   simp_all
  omega
theorem M5:∀i,i<=rules.length->(Gf rules q i).2.1=(Gf rules q i).1.map λx=>YL rules q x.toNat
 |0,_=>by simp[Gf]
 |i+1,hi=>by
  have ih:=M5 i U
  grind[XC]
end
theorem aK9(hl:l.length<=1048576) (x:Int):(∀k:Nat,l[k]?=M x->l.Pairwise (·<·)->Cv l x=M (k:Int))/\(x∉l->Cv l x=M (-1)):=by
 have b:ca (Hs l x) 0=M (Rb () (ff (λi=>if l[i]?=M x then M (i:Int)else s5) l.length)):=
  Gb (λi=>(i:Int)) _ l.length () (λi hi _=>by
   unfold Hs;rw[J,va hi,n! hi,a!,pa U]
   grind[mE]) (λ_=>by grind[Hs])
 unfold Cv;rw[b];constructor
 .intro k hk hp;have a:=(List.getElem?_eq_some_iff.1 hk).1;have:ff (λi=>if l[i]?=M x then M (i:Int)else s5) l.length=M (k:Int):=by
   refine Qa.2 ⟨k,a,l5,λj hj=>?_⟩;rw[if_neg]
   grind[Pab]
  rw[this];rfl
 .intro hx;have:ff (λi=>if l[i]?=M x then M (i:Int)else s5) l.length=s5:=by
   refine db.2 λi hi=>?_
   grind
  rw[this];rfl
theorem FW(hs:s.f.length<=1048576) {q:kv->Bool}:∀(j:Nat) (hj:j<s.f.length),∃y,ca (Rl s (Gf s.f q s.f.length).1) ((j:Int),s.f[j].am)=M y/\(match y with|.inr v=>v|.inl _=>-1)=YL s.f q j:=by
 intro j
 induction j using lad with
 |_ j d=>
  intro hj;have hrl:=(Fw (rules:=s.f) (q:=q) s.f.length).2.1;rw[bs6 hj];generalize hP:s.f[j].am=P;by_cases hc:0<=P/\P<(j:Int)
  .rw[J hc];obtain⟨p,rfl⟩:=V' hc.1;have c:p<j:=U
   have a:=aK9 (l:=(Gf s.f q s.f.length).1) U (p:Int);rw[cac];unfold nv;rw[n! (show p<s.f.length by omega)];dsimp only;by_cases hq:q (s.f[p]' U)=a38
   .rw[J hq];have b:=N5 s.f.length (x? _) p U U hq;have hi:=a.1 _ b (L5 s.f.length (x? _));refine⟨.inr ((Gf s.f q p).1.length:Int),Ct ?_,rfl⟩
    simp_all[Rl]
   .rw[p6 hq];have hi:=a.2 (λhm=>by
     obtain⟨k,hk,h1,h2,h3⟩:=qJ s.f.length (x? _) _ hm
     grind)
    obtain⟨y,y1,e⟩:=d p c U;refine⟨y,?_,e⟩;rw[Ke (s':=((p:Int),(s.f[p]' U).am))]
    .omega
    .unfold Rl;dsimp only;rw[J hc.1,a!,J l5,hi,a!,p6,va U,a!]
  .rw[p6 hc];refine⟨.inl (),Qb ?_,rfl⟩
   grind[Rl]
theorem qP(a:s.f.length<=1048576) {q:kv->Bool}(hj:j<s.f.length):uw s (Gf s.f q s.f.length).1 (j:Int)=M (YL s.f q j):=by
 obtain⟨y,y1,y2⟩:=FW a (q:=q) j hj
 grind[uw,va]
def HD(s:ek) (x:Int):Int:=((s.f[x.toNat]?).map (·.ay)).getD 0
def YP(s:ek) (d date:Int):List Int×List Int×List Int:=
 ((Gf s.f (dI d date) s.f.length).1,(Gf s.f (dI d date) s.f.length).2.1,(Gf s.f (dI d date) s.f.length).1.map (HD s))
theorem Su(a:s.f.length<=1048576) (d date:Int):Wn s d date=M (YP s d date):=by
 unfold Wn YP;rw[lE a (q:=dI d date) (λr=>by
  grind[Ig,dI,Mf]),a!]
 have hl:=(Fw (rules:=s.f) (q:=dI d date) s.f.length).2.1;have hm:=pJ (rules:=s.f) (q:=dI d date) s.f.length;generalize (Gf s.f (dI d date) s.f.length).2.1=pp;generalize (Gf s.f (dI d date) s.f.length).1=L at hl hm;have h1:ca (zj s (L,pp)) (([]:List Int),0)=M (.inl (L.map (HD s))):=by
  refine Nc (λi=>((L.take i).map (HD s),(i:Int))) L.length _ (λi hi=>?_) ?_ rfl
  .have hx:=hm _ (y! hi);have h2:(L.take i).length<=L.length:=o4
   unfold zj;dsimp only;rw[J,va hi,a!,nh hx.1 hx.2.1,a!,Od o4,a!,pa U,N!,n! hi]
   grind[HD]
  simp_all[zj]
 simp_all
theorem pP(b:s.f.length<=1048576) (d date:Int):tw s d date=M (YP s d date):=by
 unfold tw YP;rw[DM b,a!];have hl:=(Fw (rules:=s.f) (q:=dI d date) s.f.length).2.1;have hm:=qJ (rules:=s.f) (q:=dI d date) s.f.length (x? _);have a:=λ{j:Nat} (hj:j<s.f.length)=>qP b (q:=dI d date) hj;rw[M5 s.f.length (x? _)];generalize (Gf s.f (dI d date) s.f.length).1=L at hl hm a;have h1:ca (wq s L) (([]:List Int),([]:List Int),0)=M (.inl (L.map (λx=>YL s.f (dI d date) x.toNat),L.map (HD s))):=by
  refine Nc (λi=>((L.take i).map (λx=>YL s.f (dI d date) x.toNat),(L.take i).map (HD s),(i:Int))) L.length _ (λi hi=>?_) ?_ rfl
  .obtain⟨j,hj,e,-⟩:=hm _ (y! hi);have h2:(L.take i).length<=L.length:=o4
   unfold wq;dsimp only;rw[J,va hi,a!,e,a hj,a!,Od o4,a!,va hj,a!,Od o4,a!,pa U,N!,n! hi]
   simp_all[HD]
  simp_all[wq]
 simp_all
end
end Go.Proofs.Dev
