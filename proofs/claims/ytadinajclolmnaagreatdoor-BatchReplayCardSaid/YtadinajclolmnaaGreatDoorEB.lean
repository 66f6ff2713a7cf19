/-
  The engine: a part of the proof that trees of values are carried along by the program: no condition.
-/
import Derived.Scope
import Derived.Test.YtadinajclolmnaaGreatDoorEA
import Derived.Orders
open Go renaming Value->a32,World->a33,Operand->a34,Program->a35
open Option renaming some->M,none->u4
open Decidable renaming decide->D1
open Go.Tm.D renaming dead->a!
open Go.Tm.Ent renaming live->i?
open Array renaming getD_eq_getD_getElem?->Xah,getElem?_eq_getElem->Dag,getElem?_replicate->Jai,length_toList->vah,range->Rai,replicate->Wag
open Bool renaming and_eq_true->D?,or_eq_true->Cai,true->a29,false->a30
open List renaming all_eq_true->Λ,append_nil->R?,drop_eq_getElem_cons->Eaf,drop_eq_nil_of_le->Vag,getD_cons_succ->P?,getD_eq_getElem?_getD->Aah,getElem?_eq_getElem->x!,getElem?_eq_some_iff->Τ,getElem?_set->Nai,headD_nil->Oaj,length_append->G!,length_take->U',map_cons->w?,mem_append->Ρ,mem_cons->X',mem_of_getElem?->mag,mem_range->Fah,range->s?,replicate->h!,set_comm->Uaj,size_toArray->Gag,tail_nil->Vaj,take_succ_cons->Χ
open List.cons renaming injEq->Aag
open Nat renaming beq->zai,le_refl->A',le_total->Xaj,le_trans->Lag,lt_of_lt_of_le->ν,lt_or_ge->Ο,strongRecOn->dai,zero_add->Z!
open Option renaming bind_eq_some_iff->eah,getD_some->aah,map_eq_some_iff->A!
open Option.some renaming injEq->M?
open Prod.mk renaming injEq->F!
set_option linter.all false
namespace Go.Tm
open Go.RowKit (Below)
variable {K:Exit->St->Prop}{s s' sc s0:St}{code:Code}{i b S j n id k p Ca:Nat}{l:List RI}{cuts:List Nat}{d:D}{t:TypeId}{X:Type}{x y:a34}{F:Nat->Prop}{a:Act}{f:FuncId}{R:D->Prop}{P:a35}{L:Nat->Bool}{e:Ent}{ops:Array Oper}{o:Oper}{r:RI}{listed:Array Bool}{os:List (D×List Ent)}{z:a32}
section
variable {P:a35}
structure x' (N:Nat) (G:Gh) (w:a33) (m:List Ent) (G':Gh) (w':a33) (m':List Ent):Prop where
 F:∀b,G.F b->G'.F b
 heap:∀b,G.F b->w'.heap[b]?=w.heap[b]?
 n:N<=G'.n
 id:∀i,i<N->(G'.V i=G.V i/\G'.B i=G.B i/\G'.S i=G.S i/\G'.N i=G.N i/\G'.C i=G.C i)\/G.V i<G'.V i
 os:w'.os=w.os
 tape:w'.tape=w.tape
 output:w'.output=w.output
 size:w.heap.size<=w'.heap.size
 keep:∀b,b<w.heap.size->¬Oc G m b->w'.heap[b]?=w.heap[b]?
 newF:∀b,b<w.heap.size->G'.F b->G.F b\/Oc G m b
 newB:∀b,b<w.heap.size->Oc G' m' b->Oc G m b
def Step.CZ{N:Nat}{G G':Gh}{w w':a33}{m m':List Ent}(h:Step G w m G' w' m') (hN:N<=G.n):x' N G w m G' w' m':=
 ⟨h.le.F,h.le.heap,Lag hN h.le.n,λi hi=>h.le.id i (ν hi hN),h.os,h.tape,h.output,h.size,h.keep,h.newF,h.newB⟩
def x'.toStep{G G':Gh}{w w':a33}{m m':List Ent}(h:x' G.n G w m G' w' m'):Step G w m G' w' m':=
 ⟨⟨h.F,h.heap,h.n,h.id⟩,h.os,h.tape,h.output,h.size,h.keep,h.newF,h.newB⟩
theorem x'.refl{N:Nat}(G:Gh) (w:a33) (m:List Ent) (hN:N<=G.n):x' N G w m G w m:=(Step.refl G w m).CZ hN
theorem x'.trans{N:Nat}{G G' c:Gh}{w w' e:a33}{m m' d:List Ent}(h:x' N G w m G' w' m') (k:x' N G' w' m' c e d):x' N G w m c e d where
 F b hb:=k.F b (h.F b hb)
 heap b hb:=(k.heap b (h.F b hb)).trans (h.heap b hb)
 n:=k.n
 id i hi:=by
  have h1:=h.id i hi;have h2:=k.id i hi
  grind
 os:=k.os.trans h.os
 tape:=k.tape.trans h.tape
 output:=k.output.trans h.output
 size:=Lag h.size k.size
 keep b hb ho:=(k.keep b (ν hb h.size) λa=>ho (h.newB b hb a)).trans (h.keep b hb ho)
 newF b hb f:=by
  rcases k.newF b (ν hb h.size) f with a|a
  .exact h.newF b hb a
  .exact .inr (h.newB b hb a)
 newB b hb a:=h.newB b hb (k.newB b (ν hb h.size) a)
def ng(K:Exit->St->Prop):Exit->St->Prop
 |.goto _,_=>False
 |e,s=>K e s
def T(P:a35) (N:Nat) (c:C) (K:Exit->St->Prop) (s:St):Prop:=
 ∀code,comp P code=M c->∀(G:Gh) (w:a33) (a:Act),N<=G.n->p! G w a s->
  code.wp P (λe a' w'=>∃s' G',ng K e s'/\p! G' w' a' s'/\x' N G w s.m G' w' s'.m) a w
variable {N:Nat}
theorem T.mono{c:C}{K':Exit->St->Prop}(h:T P N c K s) (d:∀e s',K e s'->K' e s'):T P N c K' s:=
 λcode hc G w a hN hr=>Code.wp_mono (λe _ _ ⟨s',G',b,h2⟩=>⟨s',G',by cases e<;>first|exact d _ _ b|exact b,h2⟩) (h code hc G w a hN hr)
theorem T.intro{c:C}{K:Exit->St->Prop}{s:St}(h:∀code,(∀b,code≠.scope b)->comp P code=M c->∀(G:Gh) (w:a33) (a:Act),N<=G.n->p! G w a s->
 code.wp P (λe a' w'=>∃s' G',ng K e s'/\p! G' w' a' s'/\x' N G w s.m G' w' s'.m) a w):T P N c K s:=by
 have key:∀(n:Nat) (code:Code),SizeOf.sizeOf code=n->comp P code=M c->∀(G:Gh) (w:a33) (a:Act),N<=G.n->p! G w a s->
  code.wp P (λe a' w'=>∃s' G',ng K e s'/\p! G' w' a' s'/\x' N G w s.m G' w' s'.m) a w:=by
  intro n
  induction n using dai with
  |_ n g=>
   intro code hn hc G w a hN hr;by_cases f:∃b,code=.scope b
   .obtain⟨b,rfl⟩:=f;refine wp_scope_straight (Code.wp_mono ?_ (g (SizeOf.sizeOf b) (by rw[←hn];simp) b rfl (by simpa only[comp] using hc) G w a hN hr));rintro e a' w' ⟨s',G',d,h2⟩
    cases e with
    |goto l=>exact d.elim
    |_=>exact⟨s',G',d,h2⟩
   .exact h code (λb hb=>f ⟨b,hb⟩) hc G w a hN hr
 exact λcode=>key _ code rfl
theorem T.ghost{c:C}(j:∀(G:Gh) (w:a33) (a:Act),N<=G.n->p! G w a s->∃G',p! G' w a s'/\x' N G w s.m G' w s'.m) (h:T P N c K s'):T P N c K s:=by
 intro code hc G w a hN hr;obtain⟨G',e,b⟩:=j G w a hN hr;exact Code.wp_mono (λ_ _ _ ⟨f,d,g,h2,i⟩=>⟨f,d,g,h2,b.trans i⟩) (h code hc G' w a b.n e)
theorem K1(d:∀b,code≠.scope b) (h:comp P code=M .skip):code=.skip\/∃l,code=.label l:=by
 cases code with
 |region id ops draw=>
  cases draw with
  |false=>simp[comp]at h
  |true=>grind[comp]
 |seq a b=>grind[comp]
 |cond c a b=>grind[comp]
 |skip=>simp
 |label l=>simp
 |scope b=>exact absurd rfl (d b)
 |_=>simp[comp]at h
theorem V9(d:∀b,code≠.scope b) (h:comp P code=M .ret):code=.ret:=by
 cases code with
 |region id ops draw=>
  cases draw with
  |false=>simp[comp]at h
  |true=>grind[comp]
 |seq a b=>grind[comp]
 |cond c a b=>grind[comp]
 |ret=>rfl
 |scope b=>exact absurd rfl (d b)
 |_=>simp[comp]at h
theorem F1(d:∀b,code≠.scope b) (h:comp P code=M (.exit i)):code=.exit i:=by
 cases code with
 |region id ops draw=>
  cases draw with
  |false=>simp[comp]at h
  |true=>grind[comp]
 |seq a b=>grind[comp]
 |cond c a b=>grind[comp]
 |exit j=>grind[comp]
 |scope b=>exact absurd rfl (d b)
 |_=>simp[comp]at h
theorem II(d:∀b,code≠.scope b) (h:comp P code=M (.vD l)):∃id ops,code=.region id ops a30/\Ud P ops ops.toList=M l:=by
 cases code with
 |region id ops draw=>
  cases draw with
  |true=>grind[comp]
  |false=>simp[comp]at h;grind
 |seq a b=>grind[comp]
 |cond c a b=>grind[comp]
 |scope b=>exact absurd rfl (d b)
 |_=>simp[comp]at h
theorem AF{q:Nat}(d:∀b,code≠.scope b) (h:comp P code=M (.draw q l)):∃id ops,code=.region id ops a29/\Ud P ops ops.toList=M l/\CF (Ib ops) l q=a29:=by
 cases code with
 |region id ops draw=>
  cases draw with
  |false=>simp[comp]at h
  |true=>
   simp only[comp]at h
   grind
 |seq a b=>grind[comp]
 |cond c a b=>grind[comp]
 |scope b=>exact absurd rfl (d b)
 |_=>simp[comp]at h
theorem U9{q:Nat}{bs:List (List Nat)}(d:∀b,code≠.scope b) (h:comp P code=M (.any cuts q bs l)):∃id ops,code=.region id ops a29/\bs=Ib ops/\Ud P ops ops.toList=M l/\uP (Ib ops) l cuts q=a29:=by
 cases code with
 |region id ops draw=>
  cases draw with
  |false=>simp[comp]at h
  |true=>
   simp only[comp]at h
   grind
 |seq a b=>grind[comp]
 |cond c a b=>grind[comp]
 |scope b=>exact absurd rfl (d b)
 |_=>simp[comp]at h
theorem W9{c d:C}(e:∀b,code≠.scope b) (h:comp P code=M (.seq c d)):∃x y,code=.seq x y/\comp P x=M c/\comp P y=M d:=by
 cases code with
 |region id ops draw=>
  cases draw with
  |false=>simp[comp]at h
  |true=>grind[comp]
 |seq a b=>
  simp only[comp]at h
  grind
 |cond c a b=>grind[comp]
 |scope b=>exact absurd rfl (e b)
 |_=>simp[comp]at h
theorem B1{t:a34}{c d:C}(e:∀b,code≠.scope b) (h:comp P code=M (.cond t c d)):∃x y,code=.cond t x y/\comp P x=M c/\comp P y=M d:=by
 cases code with
 |region id ops draw=>
  cases draw with
  |false=>simp[comp]at h
  |true=>grind[comp]
 |seq a b=>grind[comp]
 |cond t' a b=>
  grind[comp]
 |scope b=>exact absurd rfl (e b)
 |_=>simp[comp]at h
theorem MU{c:C}(d:∀b,code≠.scope b) (h:comp P code=M (.block i c)):∃x,code=.block i x/\comp P x=M c:=by
 cases code with
 |region id ops draw=>
  cases draw with
  |false=>simp[comp]at h
  |true=>grind[comp]
 |seq a b=>grind[comp]
 |cond c a b=>grind[comp]
 |block j b=>simp_all[comp]
 |scope b=>exact absurd rfl (d b)
 |_=>simp[comp]at h
theorem J1{c:C}(d:∀b,code≠.scope b) (h:comp P code=M (.loop c)):∃x,code=.loop x/\comp P x=M c:=by
 cases code with
 |region id ops draw=>
  cases draw with
  |false=>simp[comp]at h
  |true=>grind[comp]
 |seq a b=>grind[comp]
 |cond c a b=>grind[comp]
 |loop b=>simp[comp]at h;simp_all
 |scope b=>exact absurd rfl (d b)
 |_=>simp[comp]at h
theorem T.skip{K:Exit->St->Prop}{s:St}(h:K .normal s):T P N .skip K s:=by
 refine T.intro λcode b hc G w a hN hr=>?_;rcases K1 b hc with rfl|⟨l,rfl⟩
 all_goals grind[wp_skip,x'.refl,wp_label,ng]
theorem T.ret{K:Exit->St->Prop}{s:St}(h:K .ret s):T P N .ret K s:=by
 refine T.intro λcode b hc G w a hN hr=>?_;obtain rfl:=V9 b hc
 grind[wp_ret,x'.refl,ng]
theorem T.exit{id:Nat}{K:Exit->St->Prop}{s:St}(h:K (.exit id) s):T P N (.exit id) K s:=by
 refine T.intro λcode b hc G w a hN hr=>?_;obtain rfl:=F1 b hc
 grind[wp_exit,x'.refl,ng]
theorem T.vD{l:List RI}{K:Exit->St->Prop}{s:St}(h:Wf P l (K .normal) s):T P N (.vD l) K s:=by
 refine T.intro λcode c hc G w a hN hr=>?_;obtain⟨id,ops,rfl,b⟩:=II c hc;exact wp_region_list (bw b h hr λs' G' w' a' d h2 e=>⟨s',G',d,h2,e.CZ hN⟩)
theorem T.seq{c d:C}{K:Exit->St->Prop}{s:St}(h:T P N c (λe s'=>match e with|.normal=>T P N d K s'|e=>K e s') s):T P N (.seq c d) K s:=by
 refine T.intro λcode i hc G w a hN hr=>?_;obtain⟨x,y,rfl,l,h2⟩:=W9 i hc;refine wp_seq (Code.wp_mono ?_ (h x l G w a hN hr));rintro e a' w' ⟨s',G',k,f,b⟩
 cases e with
 |normal=>exact Code.wp_mono (λ_ _ _ ⟨j,g,m,o,k3⟩=>⟨j,g,m,o,b.trans k3⟩) (k y h2 G' w' a' b.n f)
 |_=>exact⟨s',G',k,f,b⟩
theorem T.cond{c:a34}{x y:C}{t:Bool}{K:Exit->St->Prop}{s:St}(ht:s.ev c=.v (.bool t)) (d:t=a29->T P N x K s) (h2:t=a30->T P N y K s):T P N (.cond c x y) K s:=by
 refine T.intro λcode b hc G w a hN hr=>?_;obtain⟨f,g,rfl,e1,e2⟩:=B1 b hc;have hv:=hr.ev c;rw[ht]at hv;simp only[VRel]at hv;exact wp_cond_split hv (λe=>d e f e1 G w a hN hr) (λe=>h2 e g e2 G w a hN hr)
theorem T.block{id:Nat}{x:C}{K:Exit->St->Prop}{s:St}(h:T P N x (λe s'=>match e with|.exit c=>if c=id then K .normal s' else K (.exit c) s'|e=>K e s') s):T P N (.block id x) K s:=by
 refine T.intro λcode d hc G w a hN hr=>?_;obtain⟨b,rfl,hx⟩:=MU d hc;refine wp_block (Code.wp_mono ?_ (h b hx G w a hN hr));rintro e a' w' ⟨s',G',i,f,g⟩
 cases e with
 |exit j=>
  simp only[Exit.inBlock];simp only[ng]at i
  grind[ng]
 |_=>exact⟨s',G',i,f,g⟩
theorem ξ{c:Code}{Q:Exit->Act->a33->Prop}(o4:X->Act->a33->Prop) (μ:X->Nat)
 (round:∀x a w,o4 x a w->c.wp P (Exit.then (λa' w'=>∃y,o4 y a' w'/\μ y<μ x) Q) a w):∀(x:X) (a:Act) (w:a33),o4 x a w->(Code.loop c).wp P Q a w:=by
 intro x₀ a₀ w₀ h₀ b k cs;have key:∀n (x:X) a w,μ x=n->o4 x a w->
  ∃e a' w',Q e a' w'/\Arrives P (lone (b.at a (.code c::.inLoop c::k)) cs w) b k cs e a' w':=by
  intro n
  induction n using dai with
  |_ n h=>
   intro x a w hn g;obtain⟨e,a₁,w₁,hq,d⟩:=round x a w g b (.inLoop c::k) cs
   cases e with
   |normal=>
    obtain⟨y,hI₁,f⟩:=hq;obtain⟨e₂,a₂,w₂,hq₂,harr₂⟩:=h (μ y) (hn▸f) y a₁ w₁ rfl hI₁;exact⟨e₂,a₂,w₂,hq₂,.of_steps (Steps.trans d (.one step_inLoop)) harr₂⟩
   |exit id=>exact⟨_,a₁,w₁,hq,.pass (x:=.inLoop c) rfl (λ_ _=>.inl p6) d⟩
   |goto l=>exact⟨_,a₁,w₁,hq,.pass (x:=.inLoop c) rfl (λ_ _=>.inl p6) d⟩
   |ret=>exact⟨_,a₁,w₁,hq,.pass (x:=.inLoop c) rfl (λ_ _=>.inl p6) d⟩
   |panic ch=>exact⟨_,a₁,w₁,hq,.pass (x:=.inLoop c) rfl (λ_ _=>.inl p6) d⟩
   |outgrown=>exact⟨_,a₁,w₁,hq,.pass (x:=.inLoop c) rfl (λ_ _=>.inl p6) d⟩
 obtain⟨e,a',w',hq,d⟩:=key _ x₀ a₀ w₀ rfl h₀;exact⟨e,a',w',hq,.of_steps (.one step_loop) d⟩
theorem T.Iab{x:C}(o4:X->St->Prop) (μ:X->Nat) (x₀:X) (k:o4 x₀ s)
 (round:∀y s,o4 y s->T P N x (λe s'=>match e with|.normal=>∃z,o4 z s'/\μ z<μ y|e=>K e s') s):T P N (.loop x) K s:=by
 refine T.intro λcode g hc G w a hN hr=>?_;obtain⟨b,rfl,hx⟩:=J1 g hc;refine ξ (o4:=λ(y:X) a' w'=>∃s' G',o4 y s'/\p! G' w' a' s'/\x' N G w s.m G' w' s'.m) μ ?_ x₀ a w ⟨s,G,k,hr,x'.refl _ _ _ hN⟩;rintro y a1 p ⟨s1,j,o,h,c⟩;refine Code.wp_mono ?_ (round y s1 o b hx j p a1 c.n h);rintro e a' w' ⟨s',G',i,d,f⟩
 cases e with
 |normal=>obtain⟨z,l,h2⟩:=i;exact⟨z,⟨s',G',l,d,c.trans f⟩,h2⟩
 |_=>exact⟨s',G',i,d,c.trans f⟩
def Sa(s:St):RV->Option D
 |.tmp t=>M (s.t.getD t a!)
 |.cell A n a=>
  match ba s (.load A n (.tmp a))with
  |some (d,_)=>M d
  |none=>u4
def qa(s:St):List RV->Option (List D)
 |[]=>M []
 |r::l=>
  match Sa s r,qa s l with
  |some d,M ds=>M (d::ds)
  |_,_=>u4
def ig:List D->D
 |[d]=>d
 |l=>.tup l
def mP(tmps:Array a32):ResultVar->Sem a32
 |.tmp t=>pure (tmps.getD t undef)
 |.cell a t=>do loadVar t (←asAddr (tmps.getD a undef))
theorem qW(fn:Func) (tmps:Array a32):results fn tmps=(do let vs←fn.results.mapM (mP tmps);pure (if h:vs.size=1 then vs[0]else .tuple vs)):=by
 unfold results;rfl
theorem US:∀{l:List ResultVar}{rl:List RV}{s:St}{G:Gh}{w:a33}{a:Act}{ds:List D},Iy P l=M rl->p! G w a s->qa s rl=M ds->
 ∃us:List a32,(l.mapM (mP a.tmps)).run P w=.ok us w/\VsRel G w ds us
 |[],rl,s,G,w,a,ds,hc,hr,hd=>by
  simp only[Iy]at hc;injection hc with hc;subst hc;simp only[qa]at hd;injection hd with hd;subst hd;exact⟨[],p6,by simp[VsRel]⟩
 |r::l,rl,s,G,w,a,ds,hc,hr,hd=>by
  simp only[Iy]at hc;split at hc
  .rename_i x y c h2;injection hc with hc;subst hc;simp only[qa]at hd;split at hd
   .rename_i d ds' b f;injection hd with hd;subst hd;obtain⟨us,hrun,hv⟩:=US h2 hr f
    cases r with
    |tmp t=>
     simp only[LU]at c;injection c with c;subst c;simp only[Sa]at b;injection b with b;subst b;have hx:=hr.ev (.tmp t);simp only[St.ev,Act.eval]at hx;refine⟨a.tmps.getD t undef::us,?_,by simp only[VsRel];grind⟩
     grind[mP,Sem.run_bind,Sem.run_pure,Result.andThen_ok]
    |cell p t=>
     simp only[LU,A!]at c;obtain⟨q,hq,rfl⟩:=c;simp only[Sa]at b;split at b
     .rename_i e m0 he;injection b with b;subst b;obtain⟨ad,u,g,hrl,hvd,-⟩:=LJ (P:=P) hr hq he;simp only[Act.eval]at g;refine⟨u::us,?_,by simp only[VsRel];grind⟩
      grind[mP,asAddr,Sem.run_bind,Sem.run_pure,Result.andThen_ok]
     simp_all
   simp_all
  simp_all
def Um(rs:List RV) (R:D->List Ent->Prop):Exit->St->Prop
 |.normal,s=>∃ds,qa s rs=M ds/\R (ig ds) s.m
 |.ret,s=>∃ds,qa s rs=M ds/\R (ig ds) s.m
 |_,_=>False
theorem ae4{G:Gh}{w:a33}{ds:List D}{us:List a32}(h:VsRel G w ds us):VRel G w (ig ds) (if h:us.toArray.size=1 then us.toArray[0]else .tuple us.toArray):=by
 match ds,h with
 |[],h=>
  simp only[VsRel]at h;subst h;simp only[Gag,List.length_nil,ig];rw[dif_neg s6];simp only[VRel,VsRel];simp
 |[d],h=>
  simp only[VsRel]at h;obtain⟨u,r,rfl,hv,rfl⟩:=h
  grind[ig]
 |d::e::l,h=>
  have hl:=h.length;rw[dif_neg p5];simp only[ig,VRel]
  simp_all
theorem YG{fn:Func}{F:S?}{G:Gh}{w:a33}{ds:List D}(hc:Iy P fn.results.toList=M F.results) (hr:p! G w a s) (hd:qa s F.results=M ds) :
 ∃v,(results fn a.tmps).run P w=.ok v w/\VRel G w (ig ds) v:=by
 obtain⟨us,hrun,hv⟩:=US hc hr hd;refine⟨_,?_,ae4 hv⟩
 grind[qW,Array.mapM_eq_mapM_toList,Sem.run_bind,Sem.run_map,Result.andThen_ok,Sem.run_pure]
theorem yP(G:Gh) (w:a33):∀n,VsRel G w (h! n a!) (h! n undef)
 |0=>by simp[VsRel]
 |n+1=>by simp only[List.replicate_succ,VsRel];exact⟨_,_,rfl,Q!,yP G w n⟩
theorem Lb{F:S?}{ds:List D}{m:List Ent}{R:D->List Ent->Prop}(g:cu P f=M F) (hname:((P.funcs[f]?).map λfn=>fn.name == "runtime.NumGoroutine")=M a30)
 (h:T P m.length F.code (Um F.results R) ⟨ds++h! (F.ntmps-ds.length) a!,m⟩):CallT P f ds m R:=by
 unfold cu at g;split at g
 .rename_i fn i;split at g
  .rename_i b r hb k;simp only[A!]at g;obtain⟨c,hc,rfl⟩:=g;refine⟨⟨fn,i,p5,p5⟩,λG w vs hv hi=>?_⟩;refine calls_of_wp i hb ?_;have j:=hv.length;have hr:p! G w { tmps:=vs.toArray++Wag (fn.ntmps-vs.toArray.size) undef,defers:=[] } ⟨ds++h! (fn.ntmps-ds.length) a!,m⟩:=by
    refine⟨?_,hi,rfl⟩;simp only[Array.toList_append,Array.toList_replicate,Gag,j];exact hv.append (yP _ _ _)
   refine Code.wp_mono ?_ (h b hc G w _ (by rw[hi.n];omega) hr);rintro e a' w' ⟨s',G',p,a,o⟩;have s:Step G w m G' w' s'.m:=by rw[←hi.n]at o;exact o.toStep
   have fin:(∃ds,qa s' r=M ds/\R (ig ds) s'.m)->a'.defers=[]/\∃v,(results fn a'.tmps).run P w'=.ok v w'/\∃v_1 d m' G',Ending.returned v=.returned v_1/\R d m'/\VRel G' w' d v_1/\Inv G' w' m'/\Step G w m G' w' m':=by
    rintro⟨es,q,u⟩;obtain⟨v,l,t⟩:=YG (F:=⟨fn.ntmps,r,c⟩) k a q;exact⟨a.defers,v,l,v,_,_,G',rfl,u,t,a.inv,s⟩
   cases e with
   |normal=>exact fin p
   |ret=>exact fin p
   |_=>exact p.elim
  simp_all
 simp_all
end
structure Ν (G:Gh) (w:a33) (G':Gh) (w':a33):Prop where
 F:∀b,G.F b->G'.F b
 heap:∀b,G.F b->w'.heap[b]?=w.heap[b]?
mutual
theorem VRel.free{G G':Gh}{w w':a33}(c:Ν G w G' w'):∀{d:D}{u:a32},sa d=a29->VRel G w d u->VRel G' w' d u
 |.v x,u,_,h=>by simpa [VRel] using h
 |.agg l,u,hf,h=>by
  simp only[VRel,sa]at h hf⊢;obtain⟨cs,rfl,h,g⟩:=h;exact⟨cs,rfl,VsRel.free c hf h,g⟩
 |.tup l,u,hf,h=>by
  simp only[VRel,sa]at h hf⊢;obtain⟨cs,rfl,h⟩:=h;exact⟨cs,rfl,VsRel.free c hf h⟩
 |.sl S l,u,hf,h=>by
  simp only[VRel,sa]at h hf⊢;obtain⟨a,n,cap,rfl,hn,hc,h⟩:=h;refine⟨a,n,cap,rfl,hn,hc,?_⟩;rcases h with h|⟨b,off,rfl,e,hr⟩
  .simp_all
  .exact .inr ⟨b,off,rfl,c.F b e,Va.free c (c.heap b e) hf hr⟩
 |.pt d,u,hf,h=>by
  simp only[VRel,sa]at h hf⊢;obtain⟨b,off,x,rfl,e,hd,hh⟩:=h;exact⟨b,off,x,rfl,c.F b e,VRel.free c hf hd,hh.mono (c.heap b e)⟩
 |.fn f first caps,u,hf,h=>by
  simp only[VRel,sa,D?]at h hf⊢;obtain⟨fs,cs,rfl,g,h2⟩:=h;exact⟨fs,cs,rfl,VsRel.free c hf.1 g,VsRel.free c hf.2 h2⟩
 |.ifc t d,u,hf,h=>by
  simp only[VRel,sa]at h hf⊢;obtain⟨x,rfl,h⟩:=h;exact⟨x,rfl,VRel.free c hf h⟩
 |a!,u,_,h=>Q!
 |.ref ..,_,hf,_=>by grind[sa]
 |.own ..,_,hf,_=>by grind[sa]
 |.view ..,_,hf,_=>by grind[sa]
 |.mp _,_,hf,_=>by grind[sa]
theorem VsRel.free{G G':Gh}{w w':a33}(a:Ν G w G' w'):∀{l:List D}{us:List a32},ea l=a29->VsRel G w l us->VsRel G' w' l us
 |[],us,_,h=>by simpa [VsRel] using h
 |d::l,us,hf,h=>by
  simp only[VsRel,ea,D?]at h hf⊢;obtain⟨u,r,rfl,b,h2⟩:=h;exact⟨u,r,rfl,VRel.free a hf.1 b,VsRel.free a hf.2 h2⟩
theorem Va.free{G G':Gh}{w w':a33}(a:Ν G w G' w') {b S:Nat}(hb:w'.heap[b]?=w.heap[b]?) :
 ∀{l:List D} {off:Nat},ea l=a29->Va G w b S l off->Va G' w' b S l off
 |[],off,_,h=>by simp[Va]
 |d::l,off,hf,h=>by
  simp only[Va,ea,D?]at h hf⊢;obtain⟨⟨u,c,h2,e⟩,f⟩:=h;exact⟨⟨u,VRel.free a hf.1 c,h2,e.mono hb⟩,Va.free a hb hf.2 f⟩
end
def ob:Nat->List Ent->D->D
 |0,_,_=>a!
 |k+1,m,d=>
  match d with
  |.agg l=>.agg (l.map (ob k m))
  |.tup l=>.tup (l.map (ob k m))
  |.sl S l=>if ea l then d else .sl S (l.map (ob k m))
  |.pt d=>.pt (ob k m d)
  |.own id Ca=>
   match m[id]? with
   |some (i? S c l)=>if c=Ca then .sl S (if ea l then l else l.map (ob k m))else a!
   |_=>a!
  |.view id Ca lo n=>
   match m[id]? with
   |some (i? S c l)=>if c=Ca/\lo+n<=l.length then .sl S (((if ea l then l else l.map (ob k m)).drop lo).take n)else a!
   |_=>a!
  |.ref id Ca x s=>
   match m[id]? with
   |some (i? _ c l)=>if c=Ca/\s=0 then(match l[x]? with|some e=>.pt (ob k m e)|none=>a!)else a!
   |_=>a!
  |.fn f a b=>.fn f (a.map (ob k m)) (b.map (ob k m))
  |.v x=>.v x
  |_=>a!
theorem Pw{f:D->D}(h:∀d,sa (f d)=a29):∀l:List D,ea (l.map f)=a29
 |[]=>rfl
 |d::l=>by simp[ea,h d,Pw h l]
theorem Ch:∀{l:List D},ea l=a29↔∀d∈l,sa d=a29
 |[]=>by simp[ea]
 |d::l=>by simp[ea,Ch (l:=l)]
theorem Hq:∀(k:Nat) (m:List Ent) (d:D),sa (ob k m d)=a29
 |0,m,d=>rfl
 |k+1,m,d=>by
  have ih:=Pw (Hq k m)
  cases d with
  |agg l=>grind[ob,sa]
  |tup l=>grind[ob,sa]
  |sl S l=>
   grind[ob,sa]
  |pt d=>simpa [ob,sa] using Hq k m d
  |own id Ca=>
   grind[ob,sa]
  |view id Ca lo n=>
   grind[ob,sa,Ch]
  |ref id Ca x s=>
   simp only[ob];split
   .split
    .split
     .simpa [sa] using Hq k m _
     .rfl
    .rfl
   .rfl
  |fn f a b=>grind[ob,sa]
  |_=>rfl
def Gh.ob(G:Gh) (m:List Ent):Gh:={ G with F:=λb=>G.F b\/Oc G m b }
def oA{G:Gh}{w:a33}{m:List Ent}:Ν G w (G.ob m) w:=⟨λ_ h=>.inl h,λ_ _=>rfl⟩
theorem Io{G:Gh}{w:a33}{G':Gh}{f:D->D}(h:∀d u,VRel G w d u->VRel G' w (f d) u):∀{l:List D}{us:List a32},VsRel G w l us->VsRel G' w (l.map f) us
 |[],us,hv=>by simpa [VsRel] using hv
 |d::l,us,hv=>by
  simp only[VsRel,w?]at hv⊢;obtain⟨u,r,rfl,a,h2⟩:=hv;exact⟨u,r,rfl,h d u a,Io h h2⟩
theorem Oq{G:Gh}{w:a33}{G':Gh}{f:D->D}(h:∀d u,VRel G w d u->VRel G' w (f d) u) {b S:Nat}:∀{l:List D}{off:Nat},Va G w b S l off->Va G' w b S (l.map f) off
 |[],off,hv=>by simp[Va]
 |d::l,off,hv=>by
  simp only[Va,w?]at hv⊢;obtain⟨⟨u,a,h2,c⟩,e⟩:=hv;exact⟨⟨u,h d u a,h2,c⟩,Oq h e⟩
theorem nA{G:Gh}{w:a33}{m:List Ent}(hi:Inv G w m):∀(k:Nat) (d:D) (u:a32),VRel G w d u->VRel (G.ob m) w (ob k m d) u
 |0,d,u,_=>by simp[ob,VRel]
 |k+1,d,u,hv=>by
  have y:=nA hi k
  cases d with
  |v x=>simpa [ob,VRel] using hv
  |agg l=>
   simp only[ob,VRel]at hv⊢;obtain⟨cs,rfl,A,h2⟩:=hv;exact⟨cs,rfl,Io y A,h2⟩
  |tup l=>
   simp only[ob,VRel]at hv⊢;obtain⟨cs,rfl,A⟩:=hv;exact⟨cs,rfl,Io y A⟩
  |sl S l=>
   simp only[ob];split
   .rename_i hf;exact hv.free oA (by grind[sa])
   .simp only[VRel]at hv⊢;obtain⟨a,n,cap,rfl,hn,hc,h⟩:=hv;refine⟨a,n,cap,rfl,p5,hc,?_⟩;rcases h with h|⟨b,off,rfl,z,hr⟩
    .simp_all
    .exact .inr ⟨b,off,rfl,.inl z,Oq y hr⟩
  |pt d=>
   simp only[ob,VRel]at hv⊢;obtain⟨b,off,x,rfl,z,hd,hh⟩:=hv;exact⟨b,off,x,rfl,.inl z,y d x hd,hh⟩
  |own id Ca=>
   simp only[ob];split
   .rename_i S r l hm;split
    .rename_i j;subst j;simp only[VRel]at hv⊢;obtain⟨p,n,c,rfl,B,q,hx⟩:=hv;obtain⟨a1,a2,a3,a4,a5⟩:=hi.ent _ _ hm;obtain⟨rfl,rfl,rfl⟩:=hx a1;have E:(if ea l=a29 then l else l.map (ob k m)).length=l.length:=s5
     refine⟨_,_,_,rfl,U,U,?_⟩
     .rcases a5 with a5|⟨H,cs,T,g,z,o,F,i⟩
      .simp_all
      .refine .inr ⟨H,(G.C id).2,p5,.inr ⟨id,_,hm,rfl,g⟩,?_⟩;split
       .rename_i hf;exact i.free oA rfl hf
       grind[Oq]
    .simp[VRel]
   .simp[VRel]
  |view id Ca lo n=>
   simp only[ob];split
   .rename_i S r l hm;split
    .rename_i j;obtain⟨rfl,hle⟩:=j;simp only[VRel]at hv⊢;obtain⟨p,c,rfl,I,B,q,hx⟩:=hv;obtain⟨a1,a2,a3,a4,a5⟩:=hi.ent _ _ hm;have E:(if ea l=a29 then l else l.map (ob k m)).length=l.length:=s5
     have t:(((if ea l=a29 then l else l.map (ob k m)).drop lo).take n).length=n:=by
      grind
     refine⟨p,n,c,rfl,t.symm,I,?_⟩
     .rcases hx a1 with rfl|⟨b,hb,rfl⟩
      .simp
      .rcases a5 with a5|⟨H,cs,T,g,z,o,F,i⟩
       .simp_all
       .rw[hb]at g;injection g with g;subst g;refine .inr ⟨b,lo*S+(G.C id).2,by rw[a2],.inr ⟨id,_,hm,rfl,hb⟩,?_⟩;have:Va (G.ob m) w b S (if ea l=a29 then l else l.map (ob k m)) (G.C id).2:=by
         split
         .rename_i hf;exact i.free oA rfl hf
         grind[Oq]
        grind[Ft,Et]
    .simp[VRel]
   .simp[VRel]
  |ref id Ca x s=>
   simp only[ob];split
   .rename_i S r l hm;split
    .rename_i j;obtain⟨rfl,rfl⟩:=j;split
     .rename_i e he;simp only[VRel]at hv⊢;obtain⟨p,rfl,B,q,hx⟩:=hv;obtain⟨a1,a2,a3,a4,a5⟩:=hi.ent _ _ hm;obtain⟨b,hb,rfl⟩:=hx a1;rcases a5 with a5|⟨H,cs,T,g,z,o,F,i⟩
      .simp_all
      .rw[hb]at g;injection g with g;subst g;obtain⟨o4,g1,g2,g3⟩:=ue.1 i x e he;refine⟨b,_,o4,rfl,.inr ⟨id,_,hm,rfl,hb⟩,y e o4 g1,?_⟩
       grind
     .simp[VRel]
    .simp[VRel]
   .simp[VRel]
  |fn f a b=>
   simp only[ob,VRel]at hv⊢;obtain⟨fs,cs,rfl,A,h2⟩:=hv;exact⟨fs,cs,rfl,Io y A,Io y h2⟩
  |_=>simp[ob,VRel]
def Gh.bare(F:Nat->Prop):Gh:=⟨F,0,λ_=>u4,λ_=>0,λ_=>0,λ_=>0,λ_=>(0,0)⟩
theorem F4{g:Nat}(h:gtab g=M d):sa d=a29:=by
 unfold gtab at h;split at h
 .injection h with h;subst h;rfl
 .cases h
theorem GOK.bare{G G':Gh}{w:a33}(h:GOK G w) (a:∀b,G.F b->G'.F b):GOK G' w:=λg d hd=>
 VRel.free (G:=G) (G':=G') ⟨a,λ_ _=>rfl⟩ (d:=.pt d) (by grind[sa,F4]) (h g d hd)
theorem Tv{w:a33}(h:∀b,F b->b<w.heap.size) (a:GOK (Gh.bare F) w):Inv (Gh.bare F) w []:=
 ⟨rfl,h,λi e he=>by simp at he,λi j e e' he=>p6,a⟩
theorem sy{G:Gh}:¬Oc G [] b:=λ⟨i,e,he,_⟩=>by simp at he
theorem Nx{G G':Gh}{w w':a33}{m m':List Ent}(hi:Inv G w m) (d:Step (Gh.bare F) w [] G' w' m') (l:Inv G' w' m') (o:∀b,G.F b->F b) :
 (∀b,b<w.heap.size->w'.heap[b]?=w.heap[b]?)/\
 (Inv G w' m/\Step G w m G w' m)/\
 ((∀b,F b->G.F b)->Inv { G with F:=λb=>G'.F b\/Oc G' m' b } w' m/\Step G w m { G with F:=λb=>G'.F b\/Oc G' m' b } w' m):=by
 have a:∀b,b<w.heap.size->w'.heap[b]?=w.heap[b]?:=λb hb=>d.keep b hb sy;have f:∀i x,m[i]?=M x->x.isLive=a29->∀k,G.B i=M k->k<w.heap.size:=λi x hx hl k hk=>((hi.ent i x hx).lt hl hk).1;refine⟨a,?_,λj=>?_⟩
 .have c:Le G w G w':=⟨λ_ h=>h,λb hb=>a b (hi.F b hb),A' _,λ_ _=>.inl ⟨rfl,rfl,rfl,rfl,rfl⟩⟩;refine⟨⟨hi.n,λb hb=>ν (hi.F b hb) d.size,λi e he=>?_,hi.apart,hi.gl.mono c⟩,⟨c,d.os,d.tape,d.output,d.size,λb hb _=>a b hb,λ_ _ h=>.inl h,λ_ _ h=>h⟩⟩;by_cases hl:e.isLive=a29
  .exact(hi.ent i e he).mono c ⟨rfl,rfl,rfl,rfl,rfl⟩ (λb hb=>a b (f i e he hl b hb)) (λ_ _ _ h=>h)
  .cases e with
   |gone=>trivial
   |_=>grind[Ent.isLive]
 .have c:Le G w { G with F:=λb=>G'.F b\/Oc G' m' b } w':=⟨λb h=>.inl (d.le.F b (o b h)),λb hb=>a b (hi.F b hb),A' _,λ_ _=>.inl ⟨rfl,rfl,rfl,rfl,rfl⟩⟩;have g:∀b,b<w.heap.size->(G'.F b\/Oc G' m' b)->G.F b:=by
   intro b hb h;rcases h with h|h
   .rcases d.newF b hb h with h|h
    .exact j b h
    grind[sy]
   .exact(sy (d.newB b hb h)).elim
  refine⟨⟨hi.n,?_,λi e he=>?_,hi.apart,hi.gl.mono c⟩,⟨c,d.os,d.tape,d.output,d.size,λb hb _=>a b hb,λb hb h=>.inl (g b hb h),λ_ _ h=>h⟩⟩
  .rintro b (h|h)
   .exact l.F b h
   grind[Oc.lt]
  .by_cases hl:e.isLive=a29
   .exact(hi.ent i e he).mono c ⟨rfl,rfl,rfl,rfl,rfl⟩ (λb hb=>a b (f i e he hl b hb)) (λb hb _ h=>g b (f i e he hl b hb) h)
   .cases e with
    |gone=>trivial
    |_=>grind[Ent.isLive]
theorem Cp{ds:List D}(k:Nat) (hf:ea ds=a29) (h:CallT P f ds [] λd m'=>R (ob k m' d)) (m:List Ent) :
 CallT P f ds m λd m'=>(R d/\sa d=a29)/\m'=m:=by
 refine⟨h.1,λG w vs hv hi=>?_⟩;have g:=h.2 (Gh.bare G.F) w vs (VsRel.free (G:=G) (G':=Gh.bare G.F) ⟨λ_ h=>h,λ_ _=>rfl⟩ hf hv) (Tv hi.F (hi.gl.bare λ_ h=>h));refine g.mono ?_;rintro e w' ⟨v,d,m',G',rfl,j,c,a,l⟩;obtain⟨-,-,i⟩:=Nx hi l a (λ_ h=>h);obtain⟨g1,g2⟩:=i λ_ h=>h;refine⟨v,ob k m' d,m,_,rfl,⟨⟨j,Hq _ _ _⟩,rfl⟩,?_,g1,g2⟩;exact VRel.free (G:=G'.ob m') (G':={ G with F:=λb=>G'.F b\/Oc G' m' b }) ⟨λ_ h=>h,λ_ _=>rfl⟩ (Hq _ _ _) (nA a k d v c)
mutual
def flat:D->Bool
 |.v _=>a29
 |.agg l=>qC l
 |.tup l=>qC l
 |a!=>a29
 |_=>a30
def qC:List D->Bool
 |[]=>a29
 |d::l=>flat d&&qC l
end
mutual
theorem VRel.flat{G G':Gh}{w w':a33}:∀{d:D}{u:a32},flat d=a29->VRel G w d u->VRel G' w' d u
 |.v x,u,_,h=>by simpa [VRel] using h
 |.agg l,u,hf,h=>by
  simp only[VRel,Tm.flat]at h hf⊢;obtain⟨cs,rfl,h,a⟩:=h;exact⟨cs,rfl,VsRel.flat hf h,a⟩
 |.tup l,u,hf,h=>by
  simp only[VRel,Tm.flat]at h hf⊢;obtain⟨cs,rfl,h⟩:=h;exact⟨cs,rfl,VsRel.flat hf h⟩
 |a!,u,_,h=>Q!
 |.sl ..,_,hf,_=>by grind[Tm.flat]
 |.pt ..,_,hf,_=>by grind[Tm.flat]
 |.fn ..,_,hf,_=>by grind[Tm.flat]
 |.ref ..,_,hf,_=>by grind[Tm.flat]
 |.own ..,_,hf,_=>by grind[Tm.flat]
 |.view ..,_,hf,_=>by grind[Tm.flat]
 |.mp _,_,hf,_=>by grind[Tm.flat]
 |.ifc ..,_,hf,_=>by grind[Tm.flat]
theorem VsRel.flat{G G':Gh}{w w':a33}:∀{l:List D}{us:List a32},qC l=a29->VsRel G w l us->VsRel G' w' l us
 |[],us,_,h=>by simpa [VsRel] using h
 |d::l,us,hf,h=>by
  simp only[VsRel,qC,D?]at h hf⊢;obtain⟨u,r,rfl,a,h2⟩:=h;exact⟨u,r,rfl,VRel.flat hf.1 a,VsRel.flat hf.2 h2⟩
end
theorem wQ{ds:List D}{m:List Ent}(k:Nat) (h:CallT P f (ds.map (ob k m)) [] λd m'=>R d/\flat d=a29) :
 CallT P f ds m λd m'=>R d/\m'=m:=by
 refine⟨h.1,λG w vs hv hi=>?_⟩;have g:VsRel (Gh.bare λb=>G.F b\/Oc G m b) w (ds.map (ob k m)) vs:=
  VsRel.free (G:=G.ob m) (G':=Gh.bare λb=>G.F b\/Oc G m b) ⟨λ_ h=>h,λ_ _=>rfl⟩ (Pw (Hq k m) _) (Io (nA hi k) hv)
 have j:=h.2 _ w vs g (Tv (λb hb=>by
  rcases hb with hb|hb
  .exact hi.F b hb
  .exact(Oc.lt hi hb).1) (hi.gl.bare λ_ h=>.inl h))
 refine j.mono ?_;rintro e w' ⟨v,d,m',G',rfl,⟨l,a⟩,i,c,n⟩;obtain⟨-,h2,-⟩:=Nx hi n c (λ_ h=>.inl h);exact⟨v,d,m,G,rfl,⟨l,rfl⟩,i.flat a,h2.1,h2.2⟩
theorem Va.flat{G G':Gh}{w:a33}{b S:Nat}:∀{l:List D}{off:Nat},qC l=a29->Va G w b S l off->Va G' w b S l off
 |[],off,_,h=>by simp[Va]
 |d::l,off,hf,h=>by
  simp only[Va,qC,D?]at h hf⊢;obtain⟨⟨u,a,h2,c⟩,e⟩:=h;exact⟨⟨u,a.flat hf.1,h2,c⟩,Va.flat hf.2 e⟩
theorem G9{ds:List D}{R:Nat->List D->Prop}{m:List Ent}(k:Nat) (h:CallT P f (ds.map (ob k m)) [] λd m'=>∃id Ca S l,d=.own id Ca/\m'[id]?=M (i? S Ca l)/\qC l=a29/\R S l) :
 CallT P f ds m λd m'=>(∃S l,d=.sl S l/\R S l)/\m'=m:=by
 refine⟨h.1,λG w vs hv hi=>?_⟩;have t:VsRel (Gh.bare λb=>G.F b\/Oc G m b) w (ds.map (ob k m)) vs:=
  VsRel.free (G:=G.ob m) (G':=Gh.bare λb=>G.F b\/Oc G m b) ⟨λ_ h=>h,λ_ _=>rfl⟩ (Pw (Hq k m) _) (Io (nA hi k) hv)
 have z:=h.2 _ w vs t (Tv (λb hb=>by
  rcases hb with hb|hb
  .exact hi.F b hb
  .exact(Oc.lt hi hb).1) (hi.gl.bare λ_ h=>.inl h))
 refine z.mono ?_;rintro e w' ⟨v,d,m',G',rfl,⟨id,Ca,S,l,rfl,j,s,C⟩,q,a,u⟩;obtain⟨-,⟨g1,g2⟩,-⟩:=Nx hi u a (λ_ h=>.inl h);have hold:∀i x,m[i]?=M x->x.isLive=a29->∀k,G.B i=M k->k<w.heap.size:=λi x hx hl k hk=>((hi.ent i x hx).lt hl hk).1;have hnew:∀b,Oc G' m' b->w.heap.size<=b/\b<w'.heap.size:=λb hb=>by
  refine⟨?_,(Oc.lt a hb).1⟩;rcases Ο b w.heap.size with h|h
  .exact(sy (u.newB b h hb)).elim
  omega
 have g:Le G w' { G with F:=λb=>G.F b\/Oc G' m' b } w':=⟨λ_ h=>.inl h,λ_ _=>rfl,A' _,λ_ _=>.inl ⟨rfl,rfl,rfl,rfl,rfl⟩⟩;refine⟨v,.sl S l,m,{ G with F:=λb=>G.F b\/Oc G' m' b },rfl,⟨⟨S,l,rfl,C⟩,rfl⟩,?_,⟨g1.n,?_,?_,g1.apart,g1.gl.mono g⟩,⟨g2.le.trans g,g2.os,g2.tape,g2.output,g2.size,g2.keep,?_,g2.newB⟩⟩
 .simp only[VRel]at q⊢;obtain⟨p,n,c,rfl,-,-,hx⟩:=q;obtain⟨a1,a2,a3,a4,a5⟩:=a.ent _ _ j;obtain⟨rfl,rfl,rfl⟩:=hx a1;refine⟨_,_,_,rfl,a3,U,?_⟩;rcases a5 with a5|⟨y,cs,T,r,A,hblk,hsz,o⟩
  .simp_all
  .exact .inr ⟨y,_,p5,.inr ⟨id,_,j,rfl,r⟩,o.flat s⟩
 .rintro b (hb|hb)
  .exact g1.F b hb
  simp_all
 .intro i e he;by_cases hl:e.isLive=a29
  .refine(g1.ent i e he).mono g ⟨rfl,rfl,rfl,rfl,rfl⟩ (λ_ _=>rfl) (λb hb _ A=>?_)
   grind
  .cases e with
   |gone=>trivial
   |_=>grind[Ent.isLive]
 grind
open Go.RowKit (Below)
mutual
def k?:D->D->Prop
 |_,a!=>True
 |.v x,.sl _ l=>x=.slice u4 0 0/\l=[]
 |.agg l,.agg r=>fa l r
 |.tup l,.tup r=>fa l r
 |.sl S l,.sl S' r=>S=S'/\fa l r
 |d,e=>d=e
def fa:List D->List D->Prop
 |[],r=>r=[]
 |d::l,r=>∃e a,r=e::a/\k? d e/\fa l a
end
theorem fa.length:∀{l r:List D},fa l r->l.length=r.length
 |[],r,h=>by simp[fa]at h;simp[h]
 |d::l,r,h=>by
  simp only[fa]at h;obtain⟨e,r',rfl,_,h2⟩:=h;simp[fa.length h2]
mutual
theorem k?.rel{G:Gh}{w:a33}:∀{d e:D}{u:a32},k? d e->VRel G w d u->VRel G w e u
 |d,a!,u,_,_=>Q!
 |.v x,.sl S l,u,f,h=>by
  simp only[k?]at f;obtain⟨rfl,rfl⟩:=f;simp only[VRel]at h⊢
  grind
 |.agg l,.agg r,u,f,h=>by
  simp only[k?]at f;simp only[VRel]at h⊢;obtain⟨cs,rfl,h,g⟩:=h;exact⟨cs,rfl,fa.rel f h,g⟩
 |.tup l,.tup r,u,f,h=>by
  simp only[k?]at f;simp only[VRel]at h⊢;obtain⟨cs,rfl,h⟩:=h;exact⟨cs,rfl,fa.rel f h⟩
 |.sl S l,.sl S' r,u,f,h=>by
  simp only[k?]at f;obtain⟨rfl,f⟩:=f;simp only[VRel]at h⊢;obtain⟨a,n,cap,rfl,hn,hc,h⟩:=h;refine⟨a,n,cap,rfl,by rw[←f.length];omega,hc,?_⟩;rcases h with rfl|⟨b,off,rfl,i,hr⟩
  .simp only[fa]at f;simp_all
  .exact .inr ⟨b,off,rfl,i,fa.row f hr⟩
 |.v x,.v y,u,f,h=>by simp only[k?]at f;simp_all
 |.v x,.agg y,u,f,h=>by simp only[k?]at f;grind
 |.v x,.tup y,u,f,h=>by simp only[k?]at f;grind
 |.v x,.pt y,u,f,h=>by simp only[k?]at f;grind
 |.v x,.ref ..,u,f,h=>by simp only[k?]at f;grind
 |.v x,.own ..,u,f,h=>by simp only[k?]at f;grind
 |.v x,.view ..,u,f,h=>by simp only[k?]at f;grind
 |.v x,.fn ..,u,f,h=>by simp only[k?]at f;grind
 |.v x,.mp ..,u,f,h=>by simp only[k?]at f;grind
 |.v x,.ifc ..,u,f,h=>by simp only[k?]at f;grind
 |.agg l,.v y,u,f,h=>by simp only[k?]at f;grind
 |.agg l,.tup y,u,f,h=>by simp only[k?]at f;grind
 |.agg l,.sl ..,u,f,h=>by simp only[k?]at f;grind
 |.agg l,.pt y,u,f,h=>by simp only[k?]at f;grind
 |.agg l,.ref ..,u,f,h=>by simp only[k?]at f;grind
 |.agg l,.own ..,u,f,h=>by simp only[k?]at f;grind
 |.agg l,.view ..,u,f,h=>by simp only[k?]at f;grind
 |.agg l,.fn ..,u,f,h=>by simp only[k?]at f;grind
 |.agg l,.mp ..,u,f,h=>by simp only[k?]at f;grind
 |.agg l,.ifc ..,u,f,h=>by simp only[k?]at f;grind
 |.tup l,.v y,u,f,h=>by simp only[k?]at f;grind
 |.tup l,.agg y,u,f,h=>by simp only[k?]at f;grind
 |.tup l,.sl ..,u,f,h=>by simp only[k?]at f;grind
 |.tup l,.pt y,u,f,h=>by simp only[k?]at f;grind
 |.tup l,.ref ..,u,f,h=>by simp only[k?]at f;grind
 |.tup l,.own ..,u,f,h=>by simp only[k?]at f;grind
 |.tup l,.view ..,u,f,h=>by simp only[k?]at f;grind
 |.tup l,.fn ..,u,f,h=>by simp only[k?]at f;grind
 |.tup l,.mp ..,u,f,h=>by simp only[k?]at f;grind
 |.tup l,.ifc ..,u,f,h=>by simp only[k?]at f;grind
 |.sl S l,.v y,u,f,h=>by simp only[k?]at f;grind
 |.sl S l,.agg y,u,f,h=>by simp only[k?]at f;grind
 |.sl S l,.tup ..,u,f,h=>by simp only[k?]at f;grind
 |.sl S l,.pt y,u,f,h=>by simp only[k?]at f;grind
 |.sl S l,.ref ..,u,f,h=>by simp only[k?]at f;grind
 |.sl S l,.own ..,u,f,h=>by simp only[k?]at f;grind
 |.sl S l,.view ..,u,f,h=>by simp only[k?]at f;grind
 |.sl S l,.fn ..,u,f,h=>by simp only[k?]at f;grind
 |.sl S l,.mp ..,u,f,h=>by simp only[k?]at f;grind
 |.sl S l,.ifc ..,u,f,h=>by simp only[k?]at f;grind
 |.pt x,e,u,f,h=>by cases e<;>simp only[k?]at f<;>first|(simp[VRel];done)|(rw[←f];exact h)|cases f
 |.ref a b c d,e,u,f,h=>by cases e<;>simp only[k?]at f<;>first|(simp[VRel];done)|(rw[←f];exact h)|cases f
 |.own a b,e,u,f,h=>by cases e<;>simp only[k?]at f<;>first|(simp[VRel];done)|(rw[←f];exact h)|cases f
 |.view a b c d,e,u,f,h=>by cases e<;>simp only[k?]at f<;>first|(simp[VRel];done)|(rw[←f];exact h)|cases f
 |.fn a b c,e,u,f,h=>by cases e<;>simp only[k?]at f<;>first|(simp[VRel];done)|(rw[←f];exact h)|cases f
 |.mp a,e,u,f,h=>by cases e<;>simp only[k?]at f<;>first|(simp[VRel];done)|(rw[←f];exact h)|cases f
 |.ifc a b,e,u,f,h=>by cases e<;>simp only[k?]at f<;>first|(simp[VRel];done)|(rw[←f];exact h)|cases f
 |a!,e,u,f,h=>by cases e<;>simp only[k?]at f<;>first|(simp[VRel];done)|(rw[←f];exact h)|cases f
theorem fa.rel{G:Gh}{w:a33}:∀{l r:List D}{us:List a32},fa l r->VsRel G w l us->VsRel G w r us
 |[],r,us,a,h=>by simp only[fa]at a;subst a;exact h
 |d::l,r,us,a,h=>by
  simp only[fa]at a;obtain⟨e,r',rfl,c,h2⟩:=a;simp only[VsRel]at h⊢;obtain⟨u,b,rfl,g1,g2⟩:=h;exact⟨u,b,rfl,k?.rel c g1,fa.rel h2 g2⟩
theorem fa.row{G:Gh}{w:a33}{b S:Nat}:∀{l r:List D}{off:Nat},fa l r->Va G w b S l off->Va G w b S r off
 |[],r,off,a,h=>by simp only[fa]at a;subst a;exact h
 |d::l,r,off,a,h=>by
  simp only[fa]at a;obtain⟨e,r',rfl,c,h2⟩:=a;simp only[Va]at h⊢;obtain⟨⟨u,g1,g2,g3⟩,g4⟩:=h;exact⟨⟨u,k?.rel c g1,g2,g3⟩,fa.row h2 g4⟩
end
mutual
theorem k?.refl:∀d:D,k? d d
 |.v x=>by simp[k?]
 |.agg l=>by simp only[k?];exact fa.Da l
 |.tup l=>by simp only[k?];exact fa.Da l
 |.sl S l=>by simp only[k?,aaD];exact fa.Da l
 |.pt d=>by simp[k?]
 |.ref ..=>by simp[k?]
 |.own ..=>by simp[k?]
 |.view ..=>by simp[k?]
 |.fn ..=>by simp[k?]
 |.mp ..=>by simp[k?]
 |.ifc ..=>by simp[k?]
 |a!=>by simp[k?]
theorem fa.Da:∀l:List D,fa l l
 |[]=>by simp[fa]
 |d::l=>by simp only[fa];exact⟨d,l,rfl,k?.refl d,fa.Da l⟩
end
section
variable {P:a35} {N:Nat}
def T.sub{c:C}(t':List D) (a:fa s.t t') (h:T P N c K ⟨t',s.m⟩):T P N c K s:=
 T.ghost (s':=⟨t',s.m⟩) (λG w _ hN hr=>⟨G,⟨a.rel hr.t,hr.inv,hr.defers⟩,x'.refl _ _ _ hN⟩) h
theorem T.Mv{c:C}(i S:Nat) (hi:s.t[i]?=M (.v (.slice u4 0 0))) (h:T P N c K ⟨s.t.set i (.own s.m.length 0),s.m++[i? S 0 []]⟩):T P N c K s:=by
 refine T.ghost (λG w a hN hr=>?_) h;have e:=Qz (w':=w) hr.inv u4 S 0 0 (i? S 0 []) rfl rfl rfl rfl (A' _) (λ_ _=>rfl) (λk h=>by cases h)
  ⟨by simp[Gh.add],by simp[Gh.add],by simp[Gh.add],p6,.inl ⟨by simp[Gh.add],by simp[Gh.add]⟩⟩
 refine⟨_,⟨?_,e.1,hr.defers⟩,e.2.CZ hN⟩;have hx:=VsRel.get i hr.t;rw[Aah,hi]at hx;simp only[aah,VRel]at hx;have hset:=VsRel.set (d:=.own s.m.length 0) (x:=.slice u4 0 0) (BA (s:=s) (b:=u4) (S:=S) (N:=0) (C:=0) (w':=w) hr.inv.n) i (hr.t.mono e.2.le);have hself:a.tmps.toList.set i (.slice u4 0 0)=a.tmps.toList:=by
  rw[←hx];apply List.ext_getElem?
  grind
 simp_all
mutual
def fz(id Ca S:Nat) (l:List D):D->D
 |.agg r=>.agg (pY id Ca S l r)
 |.tup r=>.tup (pY id Ca S l r)
 |.own i v=>if i=id/\v=Ca then .sl S l else .own i v
 |.view i v lo n=>if i=id/\v=Ca/\lo+n<=l.length then .sl S ((l.drop lo).take n)else .view i v lo n
 |.ref i v x s=>if i=id/\v=Ca/\s=0 then(match l[x]? with|some d=>.pt d|none=>.ref i v x s)else .ref i v x s
 |.fn f a b=>.fn f (pY id Ca S l a) (pY id Ca S l b)
 |d=>d
def pY(id Ca S:Nat) (l:List D):List D->List D
 |[]=>[]
 |d::r=>fz id Ca S l d::pY id Ca S l r
end
def fzE(id Ca S:Nat) (l:List D):Ent->Ent
 |i? S' v r=>i? S' v (pY id Ca S l r)
 |.mp es=>.mp es
 |.gone=>.gone
theorem JH(id Ca S:Nat) (l:List D):∀r,pY id Ca S l r=r.map (fz id Ca S l)
 |[]=>rfl
 |d::r=>by simp[pY,JH id Ca S l r]
theorem Le.fz{G:Gh}{w:a33}(id:Nat):Le G w (G.fz id) w:=by
 refine⟨λ_ h=>.inl h,λ_ _=>rfl,A' _,λi _=>?_⟩
 grind[Gh.fz]
mutual
theorem Yaa{G:Gh}{w:a33}{m:List Ent}(hi:Inv G w m) {id Ca S:Nat}{l:List D}(hm:m[id]?=M (i? S Ca l)):∀{d:D}{u:a32},VRel G w d u->VRel (G.fz id) w (fz id Ca S l d) u
 |.v x,u,h=>h.mono (Le.fz id)
 |.sl S l,u,h=>h.mono (Le.fz id)
 |.pt d,u,h=>h.mono (Le.fz id)
 |.ref i v x s,u,h=>by
  simp only[fz];split
  .rename_i hc;obtain⟨rfl,rfl,rfl⟩:=hc;split
   .rename_i e he;simp only[VRel]at h⊢;obtain⟨p,rfl,q,o,hx⟩:=h;obtain⟨a1,a2,a3,a4,a5⟩:=hi.ent _ _ hm;obtain⟨b,hb,rfl⟩:=hx a1;rcases a5 with a5|⟨z,cs,T,g,E,k,y,j⟩
    .simp_all
    .rw[hb]at g;injection g with g;subst g;obtain⟨F,g1,g2,g3⟩:=ue.1 j x e he;refine⟨b,_,F,rfl,.inr hb,g1.mono (Le.fz _),?_⟩
     grind
   .exact h.mono (Le.fz _)
  .exact h.mono (Le.fz id)
 |.mp ..,u,h=>h.mono (Le.fz id)
 |.ifc ..,u,h=>h.mono (Le.fz id)
 |a!,u,h=>h.mono (Le.fz id)
 |.agg r,u,h=>by
  simp only[fz,VRel]at h⊢;obtain⟨cs,rfl,h,A⟩:=h;exact⟨cs,rfl,oB hi hm h,A⟩
 |.tup r,u,h=>by
  simp only[fz,VRel]at h⊢;obtain⟨cs,rfl,h⟩:=h;exact⟨cs,rfl,oB hi hm h⟩
 |.fn f a b,u,h=>by
  simp only[fz,VRel]at h⊢;obtain⟨fs,cs,rfl,A,h2⟩:=h;exact⟨fs,cs,rfl,oB hi hm A,oB hi hm h2⟩
 |.own i v,u,h=>by
  simp only[fz];split
  .rename_i hc;obtain⟨rfl,rfl⟩:=hc;simp only[VRel]at h⊢;obtain⟨p,n,c,rfl,q,o,hx⟩:=h;obtain⟨a1,a2,a3,a4,a5⟩:=hi.ent _ _ hm;obtain⟨rfl,rfl,rfl⟩:=hx a1;refine⟨_,_,_,rfl,a3,U,?_⟩;rcases a5 with a5|⟨z,cs,T,g,E,k,y,j⟩
   .simp_all
   .exact .inr ⟨z,(G.C i).2,p5,.inr g,j.mono (Le.fz _) rfl⟩
  .exact h.mono (Le.fz id)
 |.view i v lo n,u,h=>by
  simp only[fz];split
  .rename_i hc;obtain⟨rfl,rfl,hle⟩:=hc;simp only[VRel]at h⊢;obtain⟨p,c,rfl,B,q,o,hx⟩:=h;obtain⟨a1,a2,a3,a4,a5⟩:=hi.ent _ _ hm;have t:((l.drop lo).take n).length=n:=s5
   refine⟨p,n,c,rfl,t.symm,B,?_⟩;rcases hx a1 with rfl|⟨b,hb,rfl⟩
   .simp
   .rcases a5 with a5|⟨z,cs,T,g,E,k,y,j⟩
    .simp_all
    .rw[hb]at g;injection g with g;subst g;refine .inr ⟨b,lo*S+(G.C i).2,by rw[a2],.inr hb,?_⟩;have:=Ft (Et (j.mono (Le.fz i) rfl) lo) n
     grind
  .exact h.mono (Le.fz id)
theorem oB{G:Gh}{w:a33}{m:List Ent}(hi:Inv G w m) {id Ca S:Nat}{l:List D}(hm:m[id]?=M (i? S Ca l)):∀{r:List D}{us:List a32},VsRel G w r us->VsRel (G.fz id) w (pY id Ca S l r) us
 |[],us,h=>by simpa [pY,VsRel] using h
 |d::r,us,h=>by
  simp only[pY,VsRel]at h⊢;obtain⟨u,a,rfl,b,h2⟩:=h;exact⟨u,a,rfl,Yaa hi hm b,oB hi hm h2⟩
end
theorem T.freeze{c:C}(id Ca S:Nat) (l:List D) (hm:s.m[id]?=M (i? S Ca l)) (h:T P N c K ⟨pY id Ca S l s.t,(s.m.map (fzE id Ca S l)).set id .gone⟩):T P N c K s:=by
 refine T.ghost (λG w a hN hr=>?_) h;have hi:=hr.inv;have n6:=Le.fz (G:=G) (w:=w) id;have g:∀i e,((s.m.map (fzE id Ca S l)).set id .gone)[i]?=M e->(i=id/\e=.gone)\/(i≠id/\∃e',s.m[i]?=M e'/\e=fzE id Ca S l e'):=by
  grind
 have A:∀e,(fzE id Ca S l e).isLive=e.isLive:=λe=>by cases e<;>rfl
 have L:Inv (G.fz id) w ((s.m.map (fzE id Ca S l)).set id .gone):=by
  refine⟨by simp[Gh.fz,hi.n],?_,?_,?_,hi.gl.mono (Le.fz id)⟩
  .rintro b (h|h)
   .exact hi.F b h
   .exact((hi.ent _ _ hm).lt rfl h).1
  .intro i e he;rcases g i e he with⟨rfl,rfl⟩|⟨E,e',o,rfl⟩
   .trivial
   .have q:=hi.ent i e' o;have W:∀b,G.B i=M b->e'.isLive=a29->(G.fz id).F b->G.F b:=by
     rintro b hb hl (h|h)
     .exact h
     .exact(E (hi.apart i id e' _ o hm hl rfl b hb h)).elim
    have:=q.mono n6 (by grind[Gh.fz]) (λ_ _=>rfl) W
    cases e' with
    |live S' v r=>
     obtain⟨a1,a2,a3,a4,a5⟩:=this;refine⟨a1,a2,by grind[JH],by grind[JH],?_⟩;rcases a5 with a5|⟨b',cs,T,k,R,o4,o0,hrow⟩
     .simp_all
     .obtain⟨-,-,-,-,I⟩:=q;rcases I with I|⟨Q,cs',T',p,hF'',hblk',hsz',H⟩
      .have:(G.fz id).B i=G.B i:=rfl
       simp_all
      .have:(G.fz id).B i=G.B i:=rfl;rw[this,p]at k;injection k with k;subst k;refine .inr ⟨Q,cs,T,p,R,o4,o0,?_⟩;have O:=Oq (f:=fz id Ca S l) (λd u h=>Yaa hi hm h) H;rw[JH];exact O
    |mp es=>exact this
    |gone=>trivial
  .intro i j e e' he o hl z b hb k;rcases g i e he with⟨rfl,rfl⟩|⟨E,x,hx,rfl⟩
   .cases hl
   .rcases g j e' o with⟨rfl,rfl⟩|⟨hne',y,X,rfl⟩
    .cases z
    .rw[A]at hl z;exact hi.apart i j x y hx X hl z b hb k
 refine⟨G.fz id,⟨oB hi hm hr.t,L,hr.defers⟩,Step.CZ ⟨n6,rfl,rfl,rfl,A' _,λ_ _ _=>rfl,?_,?_⟩ hN⟩
 .rintro b hb (h|h)
  .simp_all
  .exact .inr ⟨id,_,hm,rfl,h⟩
 .rintro b hb ⟨i,e,he,hl,V⟩;rcases g i e he with⟨rfl,rfl⟩|⟨E,x,hx,rfl⟩
  .cases hl
  .exact⟨i,x,hx,p5,V⟩
mutual
def below(k:Nat):D->Bool
 |.agg l=>f? k l
 |.tup l=>f? k l
 |.sl _ l=>f? k l
 |.pt d=>below k d
 |.ref i _ _ _=>D1 (i<k)
 |.own i _=>D1 (i<k)
 |.view i _ _ _=>D1 (i<k)
 |.fn _ a b=>f? k a&&f? k b
 |.mp i=>D1 (i<k)
 |.ifc _ d=>below k d
 |_=>a29
def f?(k:Nat):List D->Bool
 |[]=>a29
 |d::l=>below k d&&f? k l
end
mutual
theorem bb(k:Nat):∀d:D,sa d=a29->below k d=a29
 |.v _,_=>by simp[below]
 |.agg l,h=>by simp only[below];exact ua k l (by grind[sa])
 |.tup l,h=>by simp only[below];exact ua k l (by grind[sa])
 |.sl _ l,h=>by simp only[below];exact ua k l (by grind[sa])
 |.pt d,h=>by simp only[below];exact bb k d (by grind[sa])
 |.ifc _ d,h=>by simp only[below];exact bb k d (by grind[sa])
 |.fn _ a b,h=>by
  simp only[sa,D?]at h;simp only[below,D?];exact⟨ua k a h.1,ua k b h.2⟩
 |a!,_=>by simp[below]
 |.ref ..,h=>by grind[sa]
 |.own ..,h=>by grind[sa]
 |.view ..,h=>by grind[sa]
 |.mp _,h=>by grind[sa]
theorem ua(k:Nat):∀l:List D,ea l=a29->f? k l=a29
 |[],_=>by simp[f?]
 |d::l,h=>by
  simp only[ea,D?]at h;simp only[f?,D?];exact⟨bb k d h.1,ua k l h.2⟩
end
def Ent.below(k:Nat):Ent->Bool
 |i? _ _ l=>f? k l
 |.mp es=>es.all λe=>Tm.below k e.2
 |.gone=>a29
def Gh.trim(G:Gh) (k:Nat):Gh:={ G with n:=k }
mutual
theorem VRel.trim{G:Gh}{w:a33}{k:Nat}:∀{d:D}{u:a32},below k d=a29->VRel G w d u->VRel (G.trim k) w d u
 |.v x,u,_,h=>by simpa [VRel] using h
 |.agg l,u,hb,h=>by
  simp only[VRel,below]at h hb⊢;obtain⟨cs,rfl,h,e⟩:=h;exact⟨cs,rfl,VsRel.trim hb h,e⟩
 |.tup l,u,hb,h=>by
  simp only[VRel,below]at h hb⊢;obtain⟨cs,rfl,h⟩:=h;exact⟨cs,rfl,VsRel.trim hb h⟩
 |.sl S l,u,hb,h=>by
  simp only[VRel,below]at h hb⊢;obtain⟨a,n,cap,rfl,hn,hc,h⟩:=h;refine⟨a,n,cap,rfl,hn,hc,?_⟩;rcases h with h|⟨b,off,rfl,g,hr⟩
  .simp_all
  .exact .inr ⟨b,off,rfl,g,Va.trim hb hr⟩
 |.pt d,u,hb,h=>by
  simp only[VRel,below]at h hb⊢;obtain⟨b,off,x,rfl,g,hd,hh⟩:=h;exact⟨b,off,x,rfl,g,VRel.trim hb hd,hh⟩
 |.ref ..,u,hb,h=>by
  simp only[VRel,below,R2]at h hb⊢;obtain⟨a,hu,_,h⟩:=h;exact⟨a,hu,hb,h⟩
 |.own ..,u,hb,h=>by
  simp only[VRel,below,R2]at h hb⊢;obtain⟨a,n,c,hu,_,h⟩:=h;exact⟨a,n,c,hu,hb,h⟩
 |.view ..,u,hb,h=>by
  simp only[VRel,below,R2]at h hb⊢;obtain⟨a,c,hu,hn,_,h⟩:=h;exact⟨a,c,hu,hn,hb,h⟩
 |.mp _,u,hb,h=>by
  simp only[VRel,below,R2]at h hb⊢;obtain⟨b,hu,_,h⟩:=h;exact⟨b,hu,hb,h⟩
 |.ifc t d,u,hb,h=>by
  simp only[VRel,below]at h hb⊢;obtain⟨x,rfl,h⟩:=h;exact⟨x,rfl,VRel.trim hb h⟩
 |.fn f first caps,u,hb,h=>by
  simp only[VRel,below,D?]at h hb⊢;obtain⟨fs,cs,rfl,e,h2⟩:=h;exact⟨fs,cs,rfl,VsRel.trim hb.1 e,VsRel.trim hb.2 h2⟩
 |a!,u,_,h=>Q!
theorem VsRel.trim{G:Gh}{w:a33}{k:Nat}:∀{l:List D}{us:List a32},f? k l=a29->VsRel G w l us->VsRel (G.trim k) w l us
 |[],us,_,h=>by simpa [VsRel] using h
 |d::l,us,hb,h=>by
  simp only[VsRel,f?,D?]at h hb⊢;obtain⟨u,r,rfl,a,h2⟩:=h;exact⟨u,r,rfl,VRel.trim hb.1 a,VsRel.trim hb.2 h2⟩
theorem Va.trim{G:Gh}{w:a33}{k b S:Nat}:∀{l:List D}{off:Nat},f? k l=a29->Va G w b S l off->Va (G.trim k) w b S l off
 |[],off,_,h=>by simp[Va]
 |d::l,off,hb,h=>by
  simp only[Va,f?,D?]at h hb⊢;obtain⟨⟨u,a,h2,c⟩,e⟩:=h;exact⟨⟨u,VRel.trim hb.1 a,h2,c⟩,Va.trim hb.2 e⟩
end
theorem Od.trim{G:Gh}{w:a33}{k:Nat}:∀{l:List (a32×D)}{es:List MapEntry},(l.all λe=>below k e.2)=a29->Od G w l es->Od (G.trim k) w l es
 |[],es,_,h=>h
 |(q,d)::l,es,hb,h=>by
  simp only[List.all_cons,D?]at hb;obtain⟨e,r,a,b,h2,c⟩:=h;exact⟨e,r,a,b,h2.trim hb.1,c.trim hb.2⟩
theorem T.trim{c:C}{K:Exit->St->Prop}{s:St}(k:Nat) (hN:N<=k) (hk:k<=s.m.length) (ht:f? k s.t=a29) (hm:(s.m.take k).all (Ent.below k)=a29) (h:T P N c K ⟨s.t,s.m.take k⟩):T P N c K s:=by
 refine T.ghost (λG w a hN' hr=>?_) h;have hi:=hr.inv;have d:∀(i:Nat) e,(s.m.take k)[i]?=M e->i<k/\s.m[i]?=M e:=by
  grind
 have o:Inv (G.trim k) w (s.m.take k):=by
  refine⟨by grind[Gh.trim],hi.F,λi e he=>?_,λi j e e' he q hl r b hb g=>hi.apart i j e e' (d i e he).2 (d j e' q).2 hl r b hb g,hi.gl.bare λ_ h=>h⟩;have hbe:e.below k=a29:=Λ.1 hm e (mag he);have f:=hi.ent i e (d i e he).2
  cases e with
  |live S Ca l=>
   obtain⟨a1,a2,a3,a4,a5⟩:=f;refine⟨a1,a2,a3,a4,?_⟩;rcases a5 with a5|⟨v,cs,T,g,A,n,u,p⟩
   .exact .inl a5
   .exact .inr ⟨v,cs,T,g,A,n,u,p.trim (by grind[Ent.below])⟩
  |mp es=>
   obtain⟨a1,b,y,x,a2,a3,a4,a5⟩:=f;exact⟨a1,b,y,x,a2,a3,a4,a5.trim (by grind[Ent.below])⟩
  |gone=>trivial
 refine⟨G.trim k,⟨hr.t.trim ht,o,hr.defers⟩,⟨λ_ h=>h,λ_ _=>rfl,hN,λi hi'=>.inl ⟨rfl,rfl,rfl,rfl,rfl⟩,rfl,rfl,rfl,A' _,λ_ _ _=>rfl,λ_ _ h=>.inl h,?_⟩⟩;rintro b hb ⟨i,e,he,hl,z⟩;exact⟨i,e,(d i e he).2,hl,z⟩
theorem T.loopS{x:C}(S:X->St) (Ql:X->Prop) (μ:X->Nat) (x₀:X) (f:Ql x₀) (ht:fa s.t (S x₀).t) (hm:s.m=(S x₀).m)
 (hb:∀y,Ql y->N<=(S y).m.length/\f? (S y).m.length (S y).t=a29/\(S y).m.all (Ent.below (S y).m.length)=a29)
 (round:∀y,Ql y->T P N x (λe s'=>match e with|.normal=>∃z,Ql z/\μ z<μ y/\fa s'.t (S z).t/\∃g,s'.m=(S z).m++g|e=>K e s') (S y)):T P N (.loop x) K s:=by
 refine T.Iab (o4:=λy s'=>Ql y/\fa s'.t (S y).t/\∃g,s'.m=(S y).m++g) μ x₀ ⟨f,ht,[],s5⟩ ?_;rintro y s1 ⟨h,b,g,a⟩;obtain⟨c,d,b3⟩:=hb y h;refine T.sub (S y).t b ?_;refine T.trim (S y).m.length c (by simp[a]) d p5 ?_;have hst:(⟨(S y).t,s1.m.take (S y).m.length⟩:St)=S y:=by
  simp_all
 grind
end
open Go.RowKit (Below)
theorem Ga(h:∀t∈Ef x,s'.t.getD t a!=s.t.getD t a!):s'.ev x=s.ev x:=by
 cases x<;>simp[St.ev]
 simp_all[Ef]
theorem MI{f:Cal}(h:∀t∈f.tmps,s'.t.getD t a!=s.t.getD t a!):s'.cv f=s.cv f:=by
 cases f with
 |tmp t=>exact Ga (x:=.tmp t) λt' h'=>h t' (by grind[Cal.tmps,Ef])
 |_=>rfl
theorem Fq{d:Nat}{x:Option a34}(h:∀t∈RG x,s'.t.getD t a!=s.t.getD t a!):bound s' d x=bound s d x:=by
 cases x with
 |none=>rfl
 |some y=>simp only[bound,Ga (s:=s) (s':=s') (x:=y) (λt ht=>h t ht)]
theorem ID{s s':St}:∀{ps:List (Nat×Nat×a34)}{l:List D},(∀t∈ps.flatMap (λp=>Ef p.2.2),s'.t.getD t a!=s.t.getD t a!)->Wa s' ps l=Wa s ps l
 |[],l,h=>rfl
 |(o,n,x)::ps,l,h=>by
  simp only[Wa,Ga (s:=s) (s':=s') (x:=x) (λt ht=>h t p5)];split
  .exact ID λt ht=>h t p5
  .rfl
theorem Jt{s s':St}{S:Nat}:∀{ps:List (Nat×a34)}{l:List D},(∀t∈ps.flatMap (λp=>Ef p.2),s'.t.getD t a!=s.t.getD t a!)->oa s' S ps l=oa s S ps l
 |[],l,h=>rfl
 |(o,x)::ps,l,h=>by
  simp only[oa,Ga (s:=s) (s':=s') (x:=x) (λt ht=>h t p5)];split
  .exact Jt λt ht=>h t p5
  .rfl
theorem N?{s s':St}:∀{l:List a34},(∀t∈l.flatMap Ef,s'.t.getD t a!=s.t.getD t a!)->l.map s'.ev=l.map s.ev
 |[],h=>rfl
 |x::l,h=>by
  simp only[w?,Ga (s:=s) (s':=s') (x:=x) (λt ht=>h t p5)];rw[N? λt ht=>h t p5]
theorem AJ{g:Option (Tmp×Bool)}(h:∀t∈QO g,s'.t.getD t a!=s.t.getD t a!):d? s' g=d? s g:=by
 cases g with
 |none=>rfl
 |some p=>grind[d?,QO]
def je:D->Option Nat
 |.ref i _ _ _=>M i
 |.own i _=>M i
 |.view i _ _ _=>M i
 |.mp i=>M i
 |_=>u4
def I.at?:I->Option a34
 |.load _ _ x|.slice _ x _ _ _|.iaddr _ x _|.len x|.mlook _ _ _ x _|.mlen x|.Mp _ x=>M x
 |_=>u4
theorem NJ{m m':List Ent}(h:∀i,je d=M i->m'[i]?=m[i]?):pa m' d=pa m d:=by
 unfold pa;split<;>first|rfl|(rename_i id Ca;rw[h id rfl])|(rename_i id _ _ _;rw[h id rfl])
theorem KV{m m':List Ent}{lo hi:Nat}(h:∀i,je d=M i->m'[i]?=m[i]?):Ta S m' d lo hi=Ta S m d lo hi:=by
 unfold Ta;split<;>first|rfl|(rename_i id Ca;rw[h id rfl])|(rename_i id Ca l0 n;rw[h id rfl])
theorem Gq{i:I}(hc:i.cls<=1) (ht:∀t∈i.reads,s'.t.getD t a!=s.t.getD t a!) (hm:∀x id,i.at?=M x->je (s.ev x)=M id->s'.m[id]?=s.m[id]?)
 {m1:List Ent} (he:ba s i=M (d,m1)):m1=s.m/\ba s' i=M (d,s'.m):=by
 cases i with
 |mv x=>
  grind[ba,I.reads,Ga]
 |pick c a b=>
  simp only[ba]at he⊢;rw[Ga (s:=s) (s':=s') (x:=c) (λt h=>ht t N'),Ga (s:=s) (s':=s') (x:=a) (λt h=>ht t N'),Ga (s:=s) (s':=s') (x:=b) (λt h=>ht t N')];split at he
  all_goals simp_all
 |bin op x y=>
  simp only[ba]at he⊢;rw[Ga (s:=s) (s':=s') (x:=x) (λt h=>ht t N'),Ga (s:=s) (s':=s') (x:=y) (λt h=>ht t N')];split at he
  all_goals first|(simp_all;done)|(simp only[A!,F!]at he⊢;grind)|(simp_all;obtain⟨_,g,h2,j⟩:=he;exact⟨j.symm,_,g,h2⟩)
 |beq n x y=>
  simp only[ba]at he⊢;rw[Ga (s:=s) (s':=s') (x:=x) (λt h=>ht t N'),Ga (s:=s) (s':=s') (x:=y) (λt h=>ht t N')];split at he
  all_goals simp_all
 |un op x=>
  simp only[ba]at he⊢;rw[Ga (s:=s) (s':=s') (x:=x) (λt h=>ht t N')];split at he
  all_goals first|(simp_all;done)|(simp only[A!,F!]at he⊢;grind)|(simp_all;obtain⟨_,g,h2,j⟩:=he;exact⟨j.symm,_,g,h2⟩)
 |conv k x=>
  simp only[ba]at he⊢;rw[Ga (s:=s) (s':=s') (x:=x) (λt h=>ht t N')];split at he
  all_goals simp_all
 |build z ps=>
  simp only[ba]at he⊢;rw[ID (s:=s) (s':=s') (λt h=>ht t N')]
  cases hb:Wa s ps z with
  |none=>simp_all
  |some l=>grind
 |mkifc t x=>
  grind[ba,I.reads,Ga]
 |tassert ok t z x=>
  simp only[ba]at he⊢;rw[Ga (s:=s) (s':=s') (x:=x) (λt h=>ht t N')]
  repeat' split at he
  all_goals simp_all
 |capn x=>
  simp only[ba]at he⊢;rw[Ga (s:=s) (s':=s') (x:=x) (λt h=>ht t N')]
  grind
 |Mp neg x=>
  simp only[ba]at he⊢;rw[Ga (s:=s) (s':=s') (x:=x) (λt h=>ht t N')];split at he
  .simp_all
  .simp_all
  .rename_i id Ca hx;rw[hm x id rfl (by rw[hx];rfl)];split at he
   all_goals simp_all
  simp_all
 |clr S z x=>grind[I.cls]
 |mkapp S b z x n=>grind[I.cls]
 |nilc x=>
  simp only[ba]at he⊢;rw[Ga (s:=s) (s':=s') (x:=x) (λt h=>ht t N')]
  grind
 |faddr A n o x=>
  simp only[ba]at he⊢;rw[Ga (s:=s) (s':=s') (x:=x) (λt h=>ht t N')];split at he
  all_goals first|(simp_all;done)|(simp only[A!,F!]at he⊢;grind)|(simp_all;obtain⟨_,g,h2,j⟩:=he;exact⟨j.symm,_,g,h2⟩)
 |field A n o x=>
  simp only[ba]at he⊢;rw[Ga (s:=s) (s':=s') (x:=x) (λt h=>ht t N')];split at he
  all_goals first|(simp_all;done)|(simp only[A!,F!]at he⊢;grind)|(simp_all;obtain⟨_,g,h2,j⟩:=he;exact⟨j.symm,_,g,h2⟩)
 |extract x k=>
  simp only[ba]at he⊢;rw[Ga (s:=s) (s':=s') (x:=x) (λt h=>ht t N')];split at he
  all_goals first|(simp_all;done)|(simp only[A!,F!]at he⊢;grind)|(simp_all;obtain⟨_,g,h2,j⟩:=he;exact⟨j.symm,_,g,h2⟩)
 |mkfunc f a b=>
  grind[ba,I.reads,N?]
 |aaddr A S n x y=>
  simp only[ba]at he⊢;rw[Ga (s:=s) (s':=s') (x:=x) (λt h=>ht t N'),Ga (s:=s) (s':=s') (x:=y) (λt h=>ht t N')]
  repeat' split at he
  all_goals first|(simp_all;done)|(simp only[A!,F!]at he⊢;obtain⟨_,g,rfl,rfl⟩:=he;exact⟨rfl,_,g,p6⟩)|(simp_all;grind)
 |index A S n x y=>
  simp only[ba]at he⊢;rw[Ga (s:=s) (s':=s') (x:=x) (λt h=>ht t N'),Ga (s:=s) (s':=s') (x:=y) (λt h=>ht t N')];split at he
  .split at he
   .rename_i hk;rw[J hk];split at he
    .simp only[A!,F!]at he⊢
     grind
    simp_all
   simp_all
  simp_all
 |slen x=>
  simp only[ba]at he⊢;rw[Ga (s:=s) (s':=s') (x:=x) (λt h=>ht t N')];split at he
  all_goals simp_all
 |len x=>
  simp only[ba]at he⊢;rw[Ga (s:=s) (s':=s') (x:=x) (λt h=>ht t N'),NJ (λid h=>hm x id rfl h)]
  cases hb:pa s.m (s.ev x)with
  |none=>simp_all
  |some l=>grind
 |slice S x lo hi mx=>
  simp only[ba]at he⊢;rw[Ga (s:=s) (s':=s') (x:=x) (λt h=>ht t N'),NJ (λid h=>hm x id rfl h)]
  cases hb:pa s.m (s.ev x)with
  |none=>simp_all
  |some n=>
   simp only[hb]at he⊢;rw[Fq (s:=s) (s':=s') (x:=lo) (λt h=>ht t N'),Fq (s:=s) (s':=s') (x:=hi) (λt h=>ht t N'),Fq (s:=s) (s':=s') (x:=mx) (λt h=>ht t N')];split at he
   .rename_i l h k g h2 j;(try simp only);rw[KV (λid h=>hm x id rfl h)];split at he
    .rename_i hc;rw[J hc]
     cases hs:Ta S s.m (s.ev x) l h with
     |none=>simp_all
     |some r=>grind
    simp_all
   simp_all
 |iaddr S x y=>
  simp only[ba]at he⊢;rw[Ga (s:=s) (s':=s') (x:=x) (λt h=>ht t N'),Ga (s:=s) (s':=s') (x:=y) (λt h=>ht t N')];split at he
  .split at he
   .rename_i k hk;rw[J hk];split at he
    .repeat' split at he
     all_goals first|(simp_all;done)|(simp only[A!,F!]at he⊢;obtain⟨_,g,rfl,rfl⟩:=he;exact⟨rfl,_,g,p6⟩)|(simp_all;grind)
    .rename_i id Ca hx;(try simp only);rw[hm x id rfl (by rw[hx];rfl)]
     repeat' split at he
     all_goals simp_all
    .rename_i id Ca lo n hx;(try simp only);rw[hm x id rfl (by rw[hx];rfl)]
     repeat' split at he
     all_goals simp_all
    simp_all
   simp_all
  simp_all
 |load A n x=>
  simp only[ba]at he⊢;rw[Ga (s:=s) (s':=s') (x:=x) (λt h=>ht t N')];split at he
  .repeat' split at he
   all_goals grind
  .rename_i id Ca e! sub hx;(try simp only);rw[hm x id rfl (by rw[hx];rfl)];split at he
   .rename_i S ver' l hml;(try simp only);split at he
    .rename_i hv;rw[J hv];simp only[eah]at he⊢;obtain⟨e,hl,he⟩:=he;split at he
     .rename_i hok;simp only[A!,F!]at he
      grind
     simp_all
    simp_all
   simp_all
  simp_all
 |alloc S z=>grind[I.cls]
 |box S x=>grind[I.cls]
 |bslice S n z ps=>grind[I.cls]
 |mkslice S b z l c=>grind[I.cls]
 |store n x y=>grind[I.cls]
 |append S b x y=>grind[I.cls]
 |fail=>grind[ba]
 |mm b xs=>
  simp only[ba]at he⊢;rw[N? (s:=s) (s':=s') (l:=xs) (λt h=>ht t N')];split at he
  all_goals first|(simp_all;done)|(simp only[A!,F!]at he⊢;grind)|(simp_all;obtain⟨_,g,h2,j⟩:=he;exact⟨j.symm,_,g,h2⟩)
 |ceq n ks x y=>
  simp only[ba]at he⊢;rw[Ga (s:=s) (s':=s') (x:=x) (λt h=>ht t N'),Ga (s:=s) (s':=s') (x:=y) (λt h=>ht t N')];split at he
  all_goals first|(simp_all;done)|(simp only[A!,F!]at he⊢;grind)|(simp_all;obtain⟨_,g,h2,j⟩:=he;exact⟨j.symm,_,g,h2⟩)
 |strb S x=>grind[I.cls]
 |trunc S x lo hi=>grind[I.cls]
 |xy x y=>
  simp only[ba]at he⊢;rw[Ga (s:=s) (s':=s') (x:=x) (λt h=>ht t N'),Ga (s:=s) (s':=s') (x:=y) (λt h=>ht t N')];split at he
  all_goals simp_all
 |sslice x lo hi=>
  simp only[ba]at he⊢;rw[Ga (s:=s) (s':=s') (x:=x) (λt h=>ht t N')];split at he
  all_goals grind[I.reads,Fq]
 |mkmap=>grind[I.cls]
 |mput K m k x=>grind[I.cls]
 |mlook K ok z x k=>
  simp only[ba]at he⊢;rw[Ga (s:=s) (s':=s') (x:=x) (λt h=>ht t N'),Ga (s:=s) (s':=s') (x:=k) (λt h=>ht t N')];split at he
  .split at he
   .rename_i hk;rw[J hk];split at he
    .grind
    .rename_i id hx;(try simp only);rw[hm x id rfl (by rw[hx];rfl)];split at he
     all_goals grind
    simp_all
   simp_all
  simp_all
 |mlen x=>
  simp only[ba]at he⊢;rw[Ga (s:=s) (s':=s') (x:=x) (λt h=>ht t N')];split at he
  .grind
  .rename_i id hx;(try simp only);rw[hm x id rfl (by rw[hx];rfl)];split at he
   all_goals simp_all
  simp_all
theorem rJ{i:I}(hc:i.cls=2) (ht:∀t∈i.reads,s'.t.getD t a!=s.t.getD t a!) (hm:s'.m=s.m) {m1:List Ent}(he:ba s i=M (d,m1)):ba s' i=M (d,m1)/\∃e,m1=s.m++[e]:=by
 cases i with
 |alloc S z=>grind[ba]
 |box S x=>
  simp only[ba]at he⊢;rw[Ga (s:=s) (s':=s') (x:=x) (λt h=>ht t N'),hm]
  grind
 |bslice S n z ps=>
  grind[ba,I.reads,Jt,A!]
 |mkslice S b z l c=>
  grind[ba,I.reads,Ga]
 |mkmap=>
  grind[ba]
 |_=>simp[I.cls]at hc
def Closed(bs:List (List Nat)) (L:Nat->Bool):Prop:=∀i b,bs[i]?=M b->L i=a29->∀e∈b,L e=a29
theorem SJ(acc:List Nat) {L:Nat->Bool}(a:∀e,L e=a29->∀j,(acc.getD e 0).testBit j=a29->L j=a29) :
 ∀(b:List Nat) (s:Nat),(∀e∈b,L e=a29)->(∀j,s.testBit j=a29->L j=a29)->∀j,(b.foldl (λs e=>s ||| 2 ^ e ||| acc.getD e 0) s).testBit j=a29->L j=a29
 |[],s,_,c,j,h=>c j h
 |e::b,s,hb,c,j,h=>by
  simp only[List.foldl_cons]at h;refine SJ acc a b _ (λx hx=>hb x s5) (λk hk=>?_) j h
  grind
theorem RL{bs:List (List Nat)}(f:Closed bs L):∀(k:Nat) (acc:List Nat),acc.length=k->(∀e,L e=a29->∀j,(acc.getD e 0).testBit j=a29->L j=a29)->
 ∀e,L e=a29->∀j,((ry acc (bs.drop k)).getD e 0).testBit j=a29->L j=a29:=by
 intro k;have main:∀(n k:Nat) (acc:List Nat),bs.length-k=n->acc.length=k->(∀e,L e=a29->∀j,(acc.getD e 0).testBit j=a29->L j=a29)->
  ∀e,L e=a29->∀j,((ry acc (bs.drop k)).getD e 0).testBit j=a29->L j=a29:=by
  intro n
  induction n with
  |zero=>
   intro k acc hn hl a e he j hj;rw[Vag U]at hj;exact a e he j hj
  |succ n g=>
   intro k acc hn hl a e he j hj;have hk:k<bs.length:=U
   rw[Eaf hk]at hj;simp only[ry]at hj;refine g (k+1) (acc++[Nab acc bs[k]]) U s5 ?_ e he j hj;intro x hx y b;rw[Aah,List.getElem?_append]at b;split at b
   .exact a x hx y p5
   .rename_i hlt;by_cases d:x=k
    .subst d;rw[hl,Nat.sub_self]at b;simp only[List.getElem?_cons_zero,aah]at b;exact SJ acc a _ 0 (λe' c=>f x _ (x! hk) hx e' c) (λj h=>s5) y b
    grind
 grind
theorem Jv{bs:List (List Nat)}(a:Closed bs L) {e:Nat}(he:L e=a29) (hj:((qy bs).getD e 0).testBit j=a29):L j=a29:=by
 have:=RL a 0 [] rfl (λe _ j h=>s5) e he j;simp only[List.drop_zero]at this;exact this hj
open Go.RowKit (Below)
theorem W4{m:List Ent}(h:pa m d=M n) (ht:je d=M id):∃e,m[id]?=M e:=by
 unfold pa at h
 grind[je]
theorem CG{i:I}{m1:List Ent}(he:ba s i=M (d,m1)) (hx:i.at?=M x) (ht:je (s.ev x)=M id):∃e,s.m[id]?=M e:=by
 cases i<;>simp only[I.at?,reduceCtorEq,M?]at hx<;>subst hx
 .grind[ba,je]
 all_goals grind[ba,je,W4,A!]
section
variable (dst:Nat->Option Tmp) (dd:Nat->D) (xx:Nat->List Ent) (L:Nat->Bool)
def tS(t0:List D):Nat->List D
 |0=>t0
 |n+1=>if L n then(match dst n with|some y=>(tS t0 n).set y (dd n)|none=>tS t0 n)else tS t0 n
def mS(m0:List Ent):Nat->List Ent
 |0=>m0
 |n+1=>if L n then mS m0 n++xx n else mS m0 n
end
section
variable {dst:Nat->Option Tmp} {dd:Nat->D} {xx:Nat->List Ent} {L:Nat->Bool}
theorem By(t0:List D):∀n,(tS dst dd L t0 n).length=t0.length
 |0=>rfl
 |n+1=>by
  simp only[tS];split
  .split
   .simp[By t0 n]
   .exact By t0 n
  .exact By t0 n
theorem Qad(t0:List D) (n y:Nat):(tS dst dd L t0 (n+1)).getD y a!=if L n=a29/\dst n=M y/\y<t0.length then dd n else(tS dst dd L t0 n).getD y a!:=by
 simp only[tS];by_cases a:L n=a29
 .rw[J a]
  cases hd:dst n with
  |none=>simp
  |some z=>
   simp only;rw[Aah,Nai];by_cases b:z=y
   .subst b;rw[J rfl,By]
    grind[By]
   simp_all
 simp_all
theorem jT(t0:List D) {y:Nat}:∀{q:Nat},i<=q->(∀j,j<q->dst j=M y->(L j=a29↔j<i))->(tS dst dd L t0 q).getD y a!=(tS dst dd (λ_=>a29) t0 i).getD y a!:=by
 have h1:∀n,n<=i->(∀j,j<n->dst j=M y->L j=a29)->(tS dst dd L t0 n).getD y a!=(tS dst dd (λ_=>a29) t0 n).getD y a!:=by
  intro n
  induction n with
  |zero=>intro _ _;rfl
  |succ n a=>
   grind[Qad]
 intro q
 induction q with
 |zero=>simp_all
 |succ q a=>
  intro hi h;by_cases hq:i=q+1
  .simp_all
  .rw[Qad,if_neg ?_]
   all_goals grind
theorem SF(m0:List Ent):∀(q:Nat),(∀i j,i<j->j<q->xx i≠[]->xx j≠[]->L j=a29->L i=a29)->∃k,k<=q/\mS xx L m0 q=mS xx (λ_=>a29) m0 k
 |0,_=>⟨0,A' _,rfl⟩
 |q+1,h=>by
  obtain⟨k,hk,he⟩:=SF m0 q λi j a hj=>h i j a U;by_cases hx:xx q=[]
  .grind[mS]
  .by_cases hL:L q=a29
   .refine⟨q+1,A' _,?_⟩;have hall:∀n,n<=q->mS xx L m0 n=mS xx (λ_=>a29) m0 n:=by
     intro n
     induction n with
     |zero=>intro _;rfl
     |succ n ih=>
      grind[mS]
    simp_all[mS]
   grind[mS]
theorem RH(m0:List Ent) (h:k<=i):∃r,mS xx (λ_=>a29) m0 i=mS xx (λ_=>a29) m0 k++r:=by
 induction i with
 |zero=>simp_all
 |succ i ih=>
  by_cases hk:k=i+1
  .simp_all
  grind[mS]
theorem gS(m0:List Ent) :∀{q:Nat},i<=q->(∀j,j<q->xx j≠[]->(L j=a29↔j<i))->mS xx L m0 q=mS xx (λ_=>a29) m0 i:=by
 have h1:∀n,n<=i->(∀j,j<n->xx j≠[]->L j=a29)->mS xx L m0 n=mS xx (λ_=>a29) m0 n:=by
  intro n
  induction n with
  |zero=>intro _ _;rfl
  |succ n a=>
   grind[mS]
 intro q
 induction q with
 |zero=>simp_all
 |succ q a=>
  grind[mS]
theorem yZ(t0:List D) {a:Nat->Bool}(hi:L i=a30) (hL':∀j,a j=(L j || j==i)):∀{q:Nat},i<q->(∀j,i<j->j<q->∀y,dst i=M y->dst j=M y->L j=a30)->
 tS dst dd a t0 q=(match dst i with|some y=>(tS dst dd L t0 q).set y (dd i)|none=>tS dst dd L t0 q):=by
 have hlow:∀n,n<=i->tS dst dd a t0 n=tS dst dd L t0 n:=by
  intro n
  induction n with
  |zero=>intro _;rfl
  |succ n c=>
   grind[tS]
 intro q
 induction q with
 |zero=>omega
 |succ q c=>
  intro hq hw;by_cases hqi:q=i
  .simp_all[tS]
  .have d:a q=L q:=p5
   have b:=c U λj hj hjq=>hw j hj U;simp only[tS,d,b]
   cases hdi:dst i with
   |none=>simp
   |some y=>
    simp only;split
    .rename_i hLq;split
     .rename_i z hz;have hne:y≠z:=by
       grind
      grind[Uaj]
     .rfl
    .rfl
theorem LY(m0:List Ent) {a:Nat->Bool}(hi:L i=a30) (hL':∀j,a j=(L j || j==i)):∀{q:Nat},i<q->(∀j,i<j->j<q->xx i≠[]->xx j≠[]->L j=a30)->
 mS xx a m0 q=mS xx L m0 q++xx i:=by
 have hlow:∀n,n<=i->mS xx a m0 n=mS xx L m0 n:=by
  intro n
  induction n with
  |zero=>intro _;rfl
  |succ n c=>
   grind[mS]
 intro q
 induction q with
 |zero=>omega
 |succ q c=>
  intro hq hw;by_cases hqi:q=i
  .simp_all[mS]
  .have d:a q=L q:=p5
   have b:=c U λj hj hjq=>hw j hj U;simp only[mS,d,b];split
   .rename_i hLq;by_cases hxi:xx i=[]
    all_goals grind
   .rfl
end
def BD(P:a35) (r:RI) (s:St) (d:D) (x:List Ent):Prop:=
 match r with
 |.op _ g i=>((d? s g=M u4\/∃c,d? s g=M (M (c,c)))/\ba s i=M (d,s.m++x))\/((∃c b,d? s g=M (M (c,b))/\c≠b)/\d=.v undef/\x=[])
 |.call _ g f args=>∃k first caps,s.cv f=.fn k first caps/\x=[]/\
  (((d? s g=M u4\/∃c,d? s g=M (M (c,c)))/\∀m,CallT P k (first++args.map s.ev++caps) m λd' m'=>d'=d/\m'=m)\/((∃c b,d? s g=M (M (c,b))/\c≠b)/\d=.v undef))
def after(s:St) (r:RI) (d:D) (x:List Ent):St:=({ s with m:=s.m++x }:St).put r.dst d
def UP(P:a35):List RI->St->List (D×List Ent)->St->Prop
 |[],s,os,s'=>os=[]/\s'=s
 |r::l,s,os,s'=>∃d x os',os=(d,x)::os'/\BD P r s d x/\UP P l (after s r d x) os' s'
section
variable {P:a35}
theorem UP.length:∀{l:List RI}{s s':St}{os:List (D×List Ent)},UP P l s os s'->os.length=l.length
 |[],s,s',os,h=>by simp[h.1]
 |r::l,s,s',os,h=>by
  obtain⟨d,x,os',rfl,_,h⟩:=h;simp[UP.length h]
def wD(rl:List RI) (os:List (D×List Ent)) (s:St) (L:Nat->Bool) (n:Nat):St:=
 ⟨tS (λi=>(rl.getD i (.op u4 u4 (.mv (.const undef)))).dst) (λi=>(os.getD i (a!,[])).1) L s.t n,mS (λi=>(os.getD i (a!,[])).2) L s.m n⟩
theorem TN(s:St) (r:RI) (d:D) (x:List Ent):(after s r d x).t=(match r.dst with|some y=>s.t.set y d|none=>s.t)/\(after s r d x).m=s.m++x:=by
 unfold after St.put
 grind
theorem UP.get{rl:List RI}{os:List (D×List Ent)}{s0:St}:∀{l:List RI}{k:Nat}{s':St}{os':List (D×List Ent)},l=(rl.drop k).take l.length->os'=(os.drop k).take os'.length->UP P l (wD rl os s0 (λ_=>a29) k) os' s'->
 (∀i,i<l.length->BD P (rl.getD (k+i) (.op u4 u4 (.mv (.const undef)))) (wD rl os s0 (λ_=>a29) (k+i)) (os.getD (k+i) (a!,[])).1 (os.getD (k+i) (a!,[])).2)/\s'=wD rl os s0 (λ_=>a29) (k+l.length)
 |[],k,s',os',_,_,h=>⟨λi hi=>s5,by simpa using h.2⟩
 |r::l,k,s',os',c,h2,h=>by
  obtain⟨d,x,a,rfl,hs,h⟩:=h;have hr:rl[k]?=M r:=by
   have:=congrArg (λl=>l[0]?) c
   grind
  have ho:os[k]?=M (d,x):=by
   have:=congrArg (λl=>l[0]?) h2
   grind
  have hr':rl.getD k (.op u4 u4 (.mv (.const undef)))=r:=p5
  have ho':os.getD k (a!,[])=(d,x):=p5
  have b:after (wD rl os s0 (λ_=>a29) k) r d x=wD rl os s0 (λ_=>a29) (k+1):=by
   have ha:=TN (wD rl os s0 (λ_=>a29) k) r d x;have:after (wD rl os s0 (λ_=>a29) k) r d x=⟨(after (wD rl os s0 (λ_=>a29) k) r d x).t,(after (wD rl os s0 (λ_=>a29) k) r d x).m⟩:=rfl
   simp_all[wD,tS,mS]
  rw[b]at h;have t1:l=(rl.drop (k+1)).take l.length:=by
   grind[Eaf]
  have t2:a=(os.drop (k+1)).take a.length:=by
   grind[Eaf]
  obtain⟨g1,g2⟩:=UP.get t1 t2 h;refine⟨λi hi=>?_,s5⟩
  cases i with
  |zero=>grind
  |succ i=>
   have:=g1 i s5
   grind
theorem Ζ{L c:Nat->Bool}{i:Nat}(hi:L i=a30) (d:∀j,c j=(L j || j==i)):∀{l:List Nat},i∈l->(l.filter λj=>!c j).length<(l.filter λj=>!L j).length
 |[],h=>by cases h
 |a::l,h=>by
  have mono:∀l:List Nat,(l.filter λj=>!c j).length<=(l.filter λj=>!L j).length:=by
   intro l
   induction l with
   |nil=>simp
   |cons b l f=>
    grind
  by_cases ha:a=i
  .grind
  .have e:i∈l:=by
    grind
   have f:=Ζ hi d e
   grind
theorem Gw{ops:Array Oper}:∀{l:List Oper}{rl:List RI},Ud P ops l=M rl->rl.length=l.length/\∀(i:Nat) o,l[i]?=M o->∃r,rl[i]?=M r/\yp P ops o=M r
 |[],rl,h=>by grind[Ud]
 |o::l,rl,h=>by
  simp only[Ud]at h;split at h
  .rename_i r rs h1 h2;injection h with h;subst h;obtain⟨g1,g2⟩:=Gw h2
   grind
  .cases h
theorem Hy(h:yp P ops o=M r):r.dst=o.dst:=by
 unfold yp at h;split at h
 .cases h
 .split at h
  .injection h with h;subst h;rfl
  .simp only[A!]at h;obtain⟨i,-,rfl⟩:=h;rfl
theorem aW4(hc:yp P ops o=M r) {x:List Ent}(hf:BD P r sc d x) (ht:∀t∈r.reads,s.t.getD t a!=sc.t.getD t a!)
 (hm:r.cls=2->s.m=sc.m) (V:∀(id:Nat),(∃e,sc.m[id]?=M e)->id<s.m.length->s.m[id]?=sc.m[id]?) (F:r.cls<=2)
 {G:Gh} {w:a33} (hr:p! G w a s) (hi:ops[i]?=M o) {Q:Exit->Act->a33->Prop} {K:Act->a33->Prop}
 (T:∀G' w' a',p! G' w' a' (after s r d x)->Step G w s.m G' w' (s.m++x)->K a' w'):wpOp P ops Q i K a w:=by
 have hdst:=Hy hc;unfold wpOp;simp only[hi];unfold yp at hc;split at hc
 .grind
 .rename_i g hg;obtain⟨hgate1,hgate2⟩:=Yn hr hg;have hgt:d? s g=d? sc g:=AJ (λt h=>ht t (by
   split at hc
   .grind[RI.reads]
   .simp only[A!]at hc;obtain⟨i,-,rfl⟩:=hc
    grind[RI.reads]))
  have S:(d? sc g=M u4\/∃c,d? sc g=M (M (c,c)))->Region.wanted o (yielded ops a.tmps)=a29:=by
   grind
  have woff:(∃c b,d? sc g=M (M (c,b))/\c≠b)->Region.wanted o (yielded ops a.tmps)=a30:=by
   grind
  have skip:d=.v undef->x=[]->K (a.put o.dst undef) w:=by
   rintro rfl rfl;refine T G w _ ?_ (by grind[Step.refl])
   simp_all[after,DE]
  split at hc
  .rename_i f args ho;injection hc with hc;subst hc;obtain⟨k,first,caps,hfe,rfl,hf⟩:=hf;have n6:s.cv f=.fn k first caps:=by grind[RI.reads,MI]
   have z:args.map s.ev=args.map sc.ev:=N? (λt h=>ht t (by grind[RI.reads]));rcases hf with⟨B,A⟩|⟨N,hd⟩
   .rw[J (S B)];refine .inl ?_;obtain⟨⟨fn,e1,e2,e3⟩,E⟩:=A s.m;obtain⟨fs,cs,O,X,Y⟩:=MA hr ho (caa n6) e1 e2 e3;rw[←z]at E;have q:=E G w (fs++args.map a.eval++cs) ((X.append (UA hr _)).append Y) hr.inv;unfold Oper.wp;rw[O,Oper.upon_enter];refine q.mono ?_;rintro e w' ⟨v,d',m',G',rfl,⟨rfl,rfl⟩,Z,o0,C⟩;refine T G' w' _ ?_ p5;unfold after;rw[R?];exact(hr.step C.le o0).put o.dst Z
   simp_all
  .rename_i hno;simp only[A!]at hc;obtain⟨j,hj,rfl⟩:=hc;rcases hf with⟨B,H⟩|⟨N,hd,hx⟩
   .rw[J (S B)];refine .inl ?_;have o4:ba s j=M (d,s.m++x):=by
     simp only[RI.cls]at F hm;have R:∀t∈j.reads,s.t.getD t a!=sc.t.getD t a!:=λt h=>ht t (by grind[RI.reads]);by_cases h2:j.cls=2
     .grind[rJ]
     .have h1:j.cls<=1:=U
      obtain⟨hxm,hres⟩:=Gq (s:=sc) (s':=s) h1 R (λy id hy l=>by
       refine V id (CG H hy l) ?_;have p:=hr.ev y;have L:s.ev y=sc.ev y:=Ga (λt h=>R t (by
        cases j<;>simp only[I.at?,reduceCtorEq,M?]at hy<;>subst hy<;>simp[I.reads,h]))
       rw[L]at p;have hn:=hr.inv.n;generalize sc.ev y=dy at *;cases dy<;>simp only[je,reduceCtorEq,M?]at l
       .subst l;simp only[VRel]at p;omega
       .subst l;simp only[VRel]at p;omega
       .subst l;simp only[VRel]at p;omega
       .subst l;simp only[VRel]at p;omega) H
      simp_all
    exact hr.Ql (OA hj hr o4) λG' w' u W C=>T G' w' _ W C
   simp_all
end
open Go.RowKit (Below)
section
variable {P:a35}
theorem ak2{Q:Exit->Act->a33->Prop}{K:St->Prop}{rs:List RI}{G:Gh}{w:a33}(h:yp P ops o=M r) (p:Wf P (r::rs) K s) (hr:p! G w a s)
 (hi:ops[i]?=M o) {Kx:Act->a33->Prop} (rest:∀{G':Gh} {w':a33} {a':Act} {s':St},Wf P rs K s'->p! G' w' a' s'->Step G w s.m G' w' s'.m->Kx a' w'):wpOp P ops Q i Kx a w:=by
 unfold wpOp;simp only[hi];unfold yp at h;split at h
 .grind
 .rename_i g B;obtain⟨hgate1,hgate2⟩:=Yn hr B;have doI:∀{i:I} {d:D} {m':List Ent},Rs P ops o o.op=M i->ba s i=M (d,m')->Wf P rs K ({ s with m:=m' }.put o.dst d)->o.wp P a w Kx Q:=by
   intro i d m' hi he b;exact hr.Ql (OA hi hr he) λG' w' u x n=>rest b x (by grind[TG])
  have skip:Wf P rs K (s.put o.dst (.v undef))->Kx (a.put o.dst undef) w:=λb=>rest b (DE hr o.dst) (by grind[TG,Step.refl]);split at h
  .rename_i f args ho;injection h with h;subst h;simp only[Wf]at p;split at p
   .rename_i k first caps q
    have doC:CallT P k (first++args.map s.ev++caps) s.m (λd m'=>Wf P rs K ({ s with m:=m' }.put o.dst d))->o.wp P a w Kx Q:=by
     rintro⟨⟨fn,e1,e2,e3⟩,j⟩;obtain⟨fs,cs,l,y,z⟩:=MA hr ho q e1 e2 e3;have c:=j G w (fs++args.map a.eval++cs) ((y.append (UA hr _)).append z) hr.inv;unfold Oper.wp;rw[l,Oper.upon_enter];refine c.mono ?_;rintro e w' ⟨v,d,m',G',rfl,b,A,t,n⟩;exact rest b ((hr.step n.le t).put o.dst A) (by grind[TG])
    grind
   grind
  .rename_i hno;simp only[A!]at h;obtain⟨i,hi,rfl⟩:=h;simp only[Wf]at p
   grind
theorem lab(hi:i<listed.size) (d:Bool):(listed.setIfInBounds i a29).getD j d=if j=i then a29 else listed.getD j d:=by
 simp only[Xah,Array.getElem?_setIfInBounds]
 grind
theorem qG(h:ops[i]?=M o):(Ib ops)[i]?=M ((o.after.toList.filter λe=>Region.binds .any e).map (·.on)):=by
 grind[Ib]
structure TailFacts (bs:List (List Nat)) (rl:List RI) (q:Nat):Prop where
 len:bs.length=rl.length
 hq:q<=rl.length
 back:∀(i:Nat) b,bs[i]?=M b->∀e∈b,e<i
 tail:∀(i j:Nat),i<j->q<=j->j<rl.length->((qy bs).getD j 0).testBit i=a29
theorem vP{bs:List (List Nat)}{rl:List RI}{q:Nat}(h:uP bs rl cuts q=a29) :
 TailFacts bs rl q/\∀p∈cuts,∀(i j:Nat),i<p->p<=j->j<rl.length->((qy bs).getD j 0).testBit i=a29:=by
 unfold uP at h;simp only[D?,T!,R2,Λ,Fah,Cai]at h;obtain⟨⟨⟨⟨h0,a⟩,h2⟩,h3⟩,h4⟩:=h;refine⟨⟨a,h2,?_,?_⟩,?_⟩
 .simp_all[Τ]
 all_goals grind
structure aa1 (bs:List (List Nat)) (rl:List RI) (q:Nat):Prop extends TailFacts bs rl q where
 cls:∀(j:Nat) y,j<q->rl[j]?=M y->y.cls<=2
 apart:∀(i j:Nat) x y,i<j->j<q->rl[i]?=M x->rl[j]?=M y->nC x y=a29->((qy bs).getD j 0).testBit i=a29
theorem jv{bs:List (List Nat)}{rl:List RI}{q:Nat}(h:CF bs rl q=a29):aa1 bs rl q:=by
 unfold CF at h;simp only[D?,T!,R2,Λ,Fah]at h;obtain⟨⟨⟨a,h2⟩,h3⟩,h4⟩:=h;have hy:∀(j:Nat) y,rl[j]?=M y->j<rl.length:=λj y hj=>(Τ.1 hj).1;refine⟨⟨a,h2,?_,?_⟩,?_,?_⟩
 rotate_left
 .grind
 rotate_right
 .simp_all[Τ]
 all_goals grind
section
variable {ops:Array Oper} {Q:Exit->Act->a33->Prop} {K:St->Prop} {rl:List RI} {q:Nat}
def Md(listed:Array Bool):Nat->Bool:=λi=>listed.getD i a30
theorem Vw(hf:TailFacts (Ib ops) rl q) (hsz:listed.size=ops.size) (h:Closed (Ib ops) (Md listed)) (hi:i∈Region.ready .any ops listed) :
 i<ops.size/\Md listed i=a30/\(∀j,j≠i->((qy (Ib ops)).getD i 0).testBit j=a29->Md listed j=a29)/\Closed (Ib ops) (Md (listed.setIfInBounds i a29))/\
 (∀j,Md (listed.setIfInBounds i a29) j=(Md listed j || j==i)):=by
 obtain⟨h0,o,ho,f⟩:=mem_ready.1 hi;have k:i<ops.size:=(Array.getElem?_eq_some_iff.1 ho).1;have g:Md listed i=a30:=by
  grind[Md]
 have d:∀j,Md (listed.setIfInBounds i a29) j=(Md listed j || j==i):=by
  intro j;unfold Md;rw[lab U]
  grind
 have c:Closed (Ib ops) (Md (listed.setIfInBounds i a29)):=by
  intro j b hb hj e he;rw[d]at hj⊢;simp only[Cai,T!]at hj⊢;rcases hj with hj|hj
  .exact .inl (h j b hb hj e he)
  .subst hj;have a:=qG ho;rw[hb]at a;injection a with a;subst a;simp only[List.mem_map,List.mem_filter,Array.mem_toList_iff]at he;obtain⟨ed,⟨l,h2⟩,rfl⟩:=he;exact .inl (f ed l h2)
 refine⟨k,g,λj hne hj=>?_,c,d⟩;have:=Jv c (e:=i) p5 hj
 simp_all
theorem uA(hf:TailFacts (Ib ops) rl q) (hsz:listed.size=ops.size) (hno:Region.ready .any ops listed=[]):∀i,i<ops.size->Md listed i=a29:=by
 intro i
 induction i using dai with
 |_ i c=>
  intro hi;rcases hb:Md listed i with _|_
  .exfalso;have:i∈Region.ready .any ops listed:=by
    refine mem_ready.2 ⟨?_,ops[i],Dag hi,λe he hbi=>?_⟩
    .grind[Md]
    .have a:=qG (Dag hi);have b:=hf.back i _ a e.on (by
      grind)
     exact c e.on b U
   simp_all
  .rfl
theorem cB(hc:Ud P ops ops.toList=M rl) (hf:TailFacts (Ib ops) rl q) :
 ∀(n r:Nat) (fuel:Nat) (listed:Array Bool) (s:St) (G:Gh) (w:a33) (a:Act),ops.size-r=n->n<=fuel->q<=r->r<=ops.size->listed.size=ops.size->(∀i,Md listed i=D1 (i<r))->
  Wf P (rl.drop r) K s->p! G w a s->(∀s' G' w' a',K s'->p! G' w' a' s'->Step G w s.m G' w' s'.m->Q .normal a' w')->wpAny P .any ops Q fuel listed a w:=by
 obtain⟨x,v⟩:=Gw hc;simp only[vah]at x;have c:∀(r:Nat) (L:Nat->Bool),(∀i,L i=D1 (i<r))->Closed (Ib ops) L:=by
  intro r L u i b hb hi e he;have:=hf.back i b hb e he
  grind
 intro n
 induction n with
 |zero=>
  intro r fuel listed s G w a hn k hq hr f u t d hQ;have hrn:r=ops.size:=U
  have o:Region.ready .any ops listed=[]:=by
   cases hre:Region.ready .any ops listed with
   |nil=>rfl
   |cons i l=>
    obtain⟨n6,h2,-⟩:=Vw hf f (c r _ u) (i:=i) p5
    simp_all
  rw[Vag U]at t;have g:=hQ s G w a t d (Step.refl _ _ _)
  cases fuel with
  |zero=>exact⟨o,g⟩
  |succ fuel=>exact⟨λ_=>g,λi hi=>p5⟩
 |succ n O=>
  intro r fuel listed s G w a hn k hq hr f u t d hQ
  cases fuel with
  |zero=>omega
  |succ fuel=>
   have z:r<ops.size:=U
   refine⟨λF=>?_,λi hi=>?_⟩
   .have:=uA hf f F r z
    simp_all
   .obtain⟨n6,h2,N,h4,h5⟩:=Vw hf f (c r _ u) hi;have E:i=r:=by
     rw[u]at h2;simp at h2;rcases Ο r i with h|h
     .have:=N r U (hf.tail r i h U U)
      simp_all
     omega
    subst E;have ho:ops[i]?=M ops[i]:=Dag n6;obtain⟨T,hri,D⟩:=v i ops[i] p6;have y:rl.drop i=T::rl.drop (i+1):=by
     grind[Eaf]
    rw[y]at t;refine ak2 D t d ho λC p H=>?_;refine O (i+1) fuel (listed.setIfInBounds i a29) _ _ _ _ U U U U (by simp[f]) (λj=>?_) C p λI A o4 B R S k3=>hQ I A o4 B R S (H.trans k3)
    grind
theorem FK{dst:Nat->Option Tmp}{dd:Nat->D}{L a:Nat->Bool}(t0:List D):∀n,(∀j,j<n->L j=a j)->tS dst dd L t0 n=tS dst dd a t0 n
 |0,_=>rfl
 |n+1,h=>by simp only[tS,h n U,FK t0 n λj hj=>h j U]
theorem RJ{xx:Nat->List Ent}{L a:Nat->Bool}(m0:List Ent):∀n,(∀j,j<n->L j=a j)->mS xx L m0 n=mS xx a m0 n
 |0,_=>rfl
 |n+1,h=>by simp only[mS,h n U,RJ m0 n λj hj=>h j U]
theorem JN{a:Nat->Bool}(n:Nat) (h:∀j,j<n->L j=a j):wD rl os s0 L n=wD rl os s0 a n:=by
 grind[wD,FK,RJ]
theorem X!(q:Nat):∀n,((s? n).filter λj=>!D1 (j<q)).length=n-q
 |0=>p6
 |n+1=>by
  rw[List.range_succ,List.filter_append,G!,X! q n]
  grind
theorem getD_some(h:i<l.length) (d:RI):l[i]?=M (l.getD i d):=by
 simp_all
theorem F2(hc:Ud P ops ops.toList=M rl) (hf:aa1 (Ib ops) rl q) 
 (I:∀i,i<q->BD P (rl.getD i (.op u4 u4 (.mv (.const undef)))) (wD rl os s0 (λ_=>a29) i) (os.getD i (a!,[])).1 (os.getD i (a!,[])).2)
 (B:∀i,i<q->(os.getD i (a!,[])).2≠[]->(rl.getD i (.op u4 u4 (.mv (.const undef)))).cls=2)
 (hT:Wf P (rl.drop q) K (wD rl os s0 (λ_=>a29) q)) :
 ∀(fuel:Nat) (listed:Array Bool) (G:Gh) (w:a33) (a:Act),((s? ops.size).filter λj=>!Md listed j).length<=fuel->listed.size=ops.size->Closed (Ib ops) (Md listed)->
  (∀j,q<=j->Md listed j=a30)->p! G w a (wD rl os s0 (Md listed) q)->
  (∀s' G' w' a',K s'->p! G' w' a' s'->Step G w (wD rl os s0 (Md listed) q).m G' w' s'.m->Q .normal a' w')->wpAny P .any ops Q fuel listed a w:=by
 obtain⟨N,o4⟩:=Gw hc;simp only[vah]at N;have hq:=hf.hq;intro fuel
 induction fuel with
 |zero=>
  intro listed G w a c p u E v hQ;have F:∀i,i<ops.size->Md listed i=a29:=by
   simp_all
  have hqn:q=ops.size:=by
   rcases Ο q ops.size with h|h
   all_goals grind
  have C:wD rl os s0 (Md listed) q=wD rl os s0 (λ_=>a29) q:=JN q λj hj=>F j U;refine cB hc hf.toTailFacts 0 q 0 listed _ G w a U (A' _) (A' _) U p (λi=>?_) hT p5 s5
  grind
 |succ fuel ih=>
  intro listed G w a c p u E v hQ;by_cases b:∀j,j<q->Md listed j=a29
  ·
    have C:wD rl os s0 (Md listed) q=wD rl os s0 (λ_=>a29) q:=JN q λj hj=>b j hj;have hL:∀i,Md listed i=D1 (i<q):=λi=>by
     grind
    have hcnt:=X! q ops.size;simp only[hL]at c;exact cB hc hf.toTailFacts (ops.size-q) q (fuel+1) listed _ G w a rfl U (A' _) U p hL hT p5 s5
  .refine⟨λhno=>(b λj hj=>uA hf.toTailFacts p hno j U).elim,λi hi=>?_⟩;obtain⟨h1,h2,h3,h4,V⟩:=Vw hf.toTailFacts p u hi;have n:i<q:=by
    rcases Ο i q with h|h
    .exact h
    .exact(b λj hj=>h3 j U (hf.tail j i U h U)).elim
   have hri:=getD_some (l:=rl) (i:=i) U (.op u4 u4 (.mv (.const undef)));obtain⟨r,hr,Z⟩:=o4 i ops[i] p6;have hrr:rl.getD i (.op u4 u4 (.mv (.const undef)))=r:=p5
   have early:∀j x,j<i->rl[j]?=M x->nC x r=a29->Md listed j=a29:=λj x hj hx d=>h3 j U (hf.apart j i x r hj n hx hr d);have late:∀j y,i<j->j<q->rl[j]?=M y->nC r y=a29->Md listed j=a30:=by
    intro j y hj hjq hy d;rcases hb:Md listed j with _|_
    .rfl
    .have:=Jv u hb (hf.apart i j r y hj hjq hr hy d)
     simp_all
   have g:∀j,j<q->rl[j]?=M (rl.getD j (.op u4 u4 (.mv (.const undef)))):=λj hj=>getD_some U _;have hF:=I i n;rw[hrr]at hF;have A:r.cls<=2:=hf.cls i r n hr;have O:∀j,j<q->(os.getD j (a!,[])).2≠[]->(rl.getD j (.op u4 u4 (.mv (.const undef)))).cls=2:=B;have f:∀x y:RI,x.cls=2->y.cls=2->nC x y=a29:=λx y hx hy=>by grind[nC]
   refine aW4 Z hF (s:=wD rl os s0 (Md listed) q) ?_ ?_ ?_ A v (Dag h1) ?_
   ·
     intro y hy;refine jT s0.t U λj hj hd=>?_
     grind[nC]
   ·
     intro hcls;refine gS s0.m U λj hj hx=>?_
     grind
   ·
     rintro id ⟨e,he⟩ n6;obtain⟨k,hk,R⟩:=SF (xx:=λi=>(os.getD i (a!,[])).2) (L:=Md listed) s0.m q λi1 j1 hij hj hx1 hx2 W=>
      Jv u W (hf.apart i1 j1 _ _ hij hj (g i1 U) (g j1 hj) (f _ _ (O i1 U hx1) (O j1 hj hx2)))
     simp only[wD]at he n6⊢;rw[R]at n6⊢;rcases Xaj i k with h|h
     .obtain⟨rr,S⟩:=RH (xx:=λi=>(os.getD i (a!,[])).2) s0.m h
      grind
     .obtain⟨rr,S⟩:=RH (xx:=λi=>(os.getD i (a!,[])).2) s0.m h
      grind
   ·
     intro G' w' a' o hs';have C:after (wD rl os s0 (Md listed) q) r (os.getD i (a!,[])).1 (os.getD i (a!,[])).2=wD rl os s0 (Md (listed.setIfInBounds i a29)) q:=by
      obtain⟨X,Y⟩:=TN (wD rl os s0 (Md listed) q) r (os.getD i (a!,[])).1 (os.getD i (a!,[])).2;have H:∀z:St,z=⟨z.t,z.m⟩:=λz=>rfl;rw[H (after _ _ _ _),X,Y];simp only[wD,St.mk.injEq];constructor
      .rw[yZ s0.t h2 V n ?_]
       all_goals grind[nC]
      .rw[LY s0.m h2 V n ?_]
       grind
     rw[C]at o;refine ih (listed.setIfInBounds i a29) G' w' a' ?_ s5 h4 ?_ o ?_
     .have:=Ζ h2 V (l:=s? ops.size) s5;omega
     .grind
     .intro s'' T w'' o0 k1 k2 k3;refine hQ s'' T w'' o0 k1 k2 (hs'.trans ?_)
      grind[TN]
theorem PO{x:List Ent}(h:BD P r s d x) (a:r.cls<=2) (hx:x≠[]):r.cls=2:=by
 cases r with
 |call dst g f args=>
  obtain⟨_,_,_,_,h,_⟩:=h
  simp_all
 |op dst g i=>
  rcases h with⟨-,h⟩|⟨-,-,h⟩
  .simp only[RI.cls]at a⊢;rcases Ο i.cls 2 with h2|h2
   .obtain⟨hm,-⟩:=Gq (s:=s) (s':=s) U (λ_ _=>rfl) (λ_ _ _ _=>rfl) h
    simp_all
   omega
  simp_all
theorem WU(Ie:P.follows .mixedOrders=a29) (hc:Ud P ops ops.toList=M rl) (g:CF (Ib ops) rl q=a29) {s1:St}(p:UP P (rl.take q) s os s1) (r:Wf P (rl.drop q) K s1)
 {G:Gh} {w:a33} (hr:p! G w a s) (hQ:∀s' G' w' a',K s'->p! G' w' a' s'->Step G w s.m G' w' s'.m->Q .normal a' w'):(Code.region id ops a29).wp P Q a w:=by
 have hf:=jv g;have c:(rl.take q).length=q:=by rw[U'];have:=hf.hq;omega
 have e:=p.length;rw[c]at e;have o:wD rl os s (λ_=>a29) 0=s:=rfl;obtain⟨g1,g2⟩:=UP.get (rl:=rl) (os:=os) (s0:=s) (k:=0) (l:=rl.take q) (os':=os) (s':=s1) p6 p6 (by rw[o];omega);simp only[c,Z!]at g1 g2;subst g2;have f:∀j,Md (Wag ops.size a30) j=a30:=by
  intro j;unfold Md;simp only[Xah,Jai]
  grind
 have d:wD rl os s (Md (Wag ops.size a30)) q=s:=by
  have ht:∀n,tS (λi=>(rl.getD i (.op u4 u4 (.mv (.const undef)))).dst) (λi=>(os.getD i (a!,[])).1) (Md (Wag ops.size a30)) s.t n=s.t:=by
   intro n
   induction n with
   |zero=>rfl
   |succ n u=>simp_all[tS]
  have hm:∀n,mS (λi=>(os.getD i (a!,[])).2) (Md (Wag ops.size a30)) s.m n=s.m:=by
   intro n
   induction n with
   |zero=>rfl
   |succ n u=>simp_all[mS]
  grind[wD]
 refine wp_region_any Ie ?_;have h:=W?.drew w;refine F2 hc hf g1 (λi hi hx=>PO (g1 i hi) (hf.cls i _ hi (getD_some s5 _)) hx) r ops.size _ G _ a ?_ p6 ?_ (λj _=>f j) ?_ ?_
 .grind
 .intro i b _ hi
  simp_all
 .rw[d];exact⟨hr.t.mono (h.le G),h.inv hr.inv,hr.defers⟩
 .intro s' G' w' a' v x k3;rw[d]at k3;exact hQ s' G' w' a' v x ((h.step G s.m).trans k3)
end
end
section
variable {P:a35} {N:Nat}
def RP(P:a35):Nat->List RI->(St->Prop)->St->Prop
 |0,l,K,s=>Wf P l K s
 |_+1,[],_,_=>False
 |q+1,.op dst g i::l,K,s=>
  match d? s g with
  |none=>False
  |some u4=>∃d m',ba s i=M (d,m')/\RP P q l K ({ s with m:=m' }.put dst d)
  |some (M (c,b))=>(c=b->∃d m',ba s i=M (d,m')/\RP P q l K ({ s with m:=m' }.put dst d))/\(c≠b->RP P q l K (s.put dst (.v undef)))
 |q+1,.call dst g f args::l,K,s=>
  match s.cv f with
  |.fn k first caps=>
   match d? s g with
   |none=>False
   |some u4=>∃d,(∀m,CallT P k (first++args.map s.ev++caps) m λd' m'=>d'=d/\m'=m)/\RP P q l K (s.put dst d)
   |some (M (c,b))=>(c=b->∃d,(∀m,CallT P k (first++args.map s.ev++caps) m λd' m'=>d'=d/\m'=m)/\RP P q l K (s.put dst d))/\(c≠b->RP P q l K (s.put dst (.v undef)))
  |_=>False
theorem Nq{K K':St->Prop}(h:∀s,K s->K' s):∀{l:List RI}{s:St},Wf P l K s->Wf P l K' s
 |[],s,hk=>h s hk
 |.op dst g i::l,s,hk=>by
  simp only[Wf]at hk⊢;split at hk
  .exact hk.elim
  .obtain⟨d,m',a,h2⟩:=hk;exact⟨d,m',a,Nq h h2⟩
  .refine⟨λe=>?_,λe=>Nq h (hk.2 e)⟩;obtain⟨d,m',a,h2⟩:=hk.1 e;exact⟨d,m',a,Nq h h2⟩
 |.call dst g f args::l,s,hk=>by
  simp only[Wf]at hk⊢;split at hk
  .split at hk
   .exact hk.elim
   .exact hk.mono λ_ _ h2=>Nq h h2
   .exact⟨λe=>(hk.1 e).mono λ_ _ h2=>Nq h h2,λe=>Nq h (hk.2 e)⟩
  .split at hk
   .exact⟨hk.1,Nq h hk.2⟩
   .exact hk.elim
section
variable {ops:Array Oper} {Q:Exit->Act->a33->Prop} {K:St->Prop} {rl:List RI} {q:Nat}
end
theorem bB:∀{q:Nat}{l:List RI}{K:St->Prop}{s:St},RP P q l K s->(∀(j:Nat) y,j<q->l[j]?=M y->y.cls<=2)->∃os s1,UP P (l.take q) s os s1/\Wf P (l.drop q) K s1
 |0,l,K,s,h,_=>⟨[],s,by simp[UP],by simpa [RP] using h⟩
 |q+1,[],K,s,h,_=>by simp[RP]at h
 |q+1,.op dst g i::l,K,s,h,hc=>by
  have hci:i.cls<=2:=hc 0 _ U rfl;have o:∀(j:Nat) y,j<q->l[j]?=M y->y.cls<=2:=λj y hj u=>hc (j+1) y U p5;have ext:∀{d:D} {m':List Ent},ba s i=M (d,m')->∃x,m'=s.m++x:=λ{d m'} he=>by
   rcases Ο i.cls 2 with h2|h2
   .exact⟨[],by rw[R?];exact(Gq (s:=s) (s':=s) U (λ_ _=>rfl) (λ_ _ _ _=>rfl) he).1⟩
   .obtain⟨-,e,h⟩:=rJ (s:=s) (s':=s) U (λ_ _=>rfl) rfl he
    simp_all
  have on:∀{d:D} {m':List Ent},ba s i=M (d,m')->(d? s g=M u4\/∃c,d? s g=M (M (c,c)))->RP P q l K ({ s with m:=m' }.put dst d)->
   ∃os s1,UP P ((RI.op dst g i::l).take (q+1)) s os s1/\Wf P ((RI.op dst g i::l).drop (q+1)) K s1:=by
   intro d m' he p r;obtain⟨x,rfl⟩:=ext he;obtain⟨os,s1,t,h2⟩:=bB r o;exact⟨(d,x)::os,s1,by simp only[Χ,UP];exact⟨d,x,os,rfl,.inl ⟨p,he⟩,t⟩,p5⟩
  simp only[RP]at h;split at h
  .simp_all
  .grind
  .rename_i c b p;by_cases n:c=b
   .subst n;obtain⟨d,m',he,r⟩:=h.1 rfl
    simp_all
   .obtain⟨os,s1,t,h2⟩:=bB (h.2 n) o;refine⟨(.v undef,[])::os,s1,?_,p5⟩;simp only[Χ,UP];refine⟨_,_,os,rfl,.inr ⟨⟨c,b,p,n⟩,rfl,rfl⟩,?_⟩;have:after s (.op dst g i) (.v undef) []=s.put dst (.v undef):=by unfold after;rw[R?];rfl
    simp_all
 |q+1,.call dst g f args::l,K,s,h,hc=>by
  have o:∀(j:Nat) y,j<q->l[j]?=M y->y.cls<=2:=λj y hj u=>hc (j+1) y U p5;have haf:∀d,after s (.call dst g f args) d []=s.put dst d:=λd=>by unfold after;rw[R?];rfl
  simp only[RP]at h;split at h
  .rename_i k first caps hf
   split at h
   .simp_all
   .rename_i p;obtain⟨d,a,r⟩:=h;obtain⟨os,s1,t,h2⟩:=bB r o;refine⟨(d,[])::os,s1,?_,p5⟩;simp only[Χ,UP];exact⟨d,[],os,rfl,⟨k,first,caps,hf,rfl,.inl ⟨.inl p,a⟩⟩,p5⟩
   .rename_i c b p;by_cases n:c=b
    .subst n;obtain⟨d,a,r⟩:=h.1 rfl;obtain⟨os,s1,t,h2⟩:=bB r o;refine⟨(d,[])::os,s1,?_,p5⟩;simp only[Χ,UP];exact⟨d,[],os,rfl,⟨k,first,caps,hf,rfl,.inl ⟨.inr ⟨c,p⟩,a⟩⟩,p5⟩
    .obtain⟨os,s1,t,h2⟩:=bB (h.2 n) o;refine⟨(.v undef,[])::os,s1,?_,p5⟩;simp only[Χ,UP];exact⟨_,[],os,rfl,⟨k,first,caps,hf,rfl,.inr ⟨⟨c,b,p,n⟩,rfl⟩⟩,p5⟩
  simp_all
theorem T.draw{q:Nat}{l:List RI}{K:Exit->St->Prop}{s:St}(hm:P.follows .mixedOrders=a29) (h:RP P q l (K .normal) s):T P N (.draw q l) K s:=by
 refine T.intro λcode d hc G w a hN hr=>?_;obtain⟨id,ops,rfl,c,b⟩:=AF d hc;obtain⟨os,s1,e,h2⟩:=bB h (jv b).cls;exact WU hm c b e h2 hr λs' G' w' a' f g k3=>⟨s',G',f,g,k3.CZ hN⟩
end
section
variable (ww:Nat->Option (Nat×Ent)) (L:Nat->Bool)
def sS(m:List Ent):Nat->List Ent
 |0=>m
 |n+1=>if L n then(match ww n with|some (id,e)=>(sS m n).set id e|none=>sS m n)else sS m n
def sA(id:Nat):Nat->Option Ent
 |0=>u4
 |n+1=>if L n then(match ww n with|some (j,e)=>if j=id then M e else sA id n|none=>sA id n)else sA id n
end
section
variable {ww:Nat->Option (Nat×Ent)} {L:Nat->Bool}
theorem lp(m:List Ent):∀n,(sS ww L m n).length=m.length
 |0=>rfl
 |n+1=>by
  simp only[sS]
  repeat' split
  all_goals simp[lp m n]
theorem zK(m:List Ent) (id:Nat):∀n,id<m.length->(sS ww L m n)[id]?=(match sA ww L id n with|some e=>M e|none=>m[id]?)
 |0,h=>rfl
 |n+1,h=>by
  simp only[sS,sA];split
  .split
   .rename_i j e hw;rw[Nai];by_cases hj:j=id
    .subst hj;rw[J rfl,J rfl,J (by grind[lp])]
    .rw[s7 hj,s7 hj];exact zK m id n h
   .exact zK m id n h
  .exact zK m id n h
theorem HV:∀{q:Nat},i<=q->(∀j,j<q->∀e,ww j=M (id,e)->(L j=a29↔j<i))->sA ww L id q=sA ww (λ_=>a29) id i:=by
 have h1:∀n,n<=i->(∀j,j<n->∀e,ww j=M (id,e)->L j=a29)->sA ww L id n=sA ww (λ_=>a29) id n:=by
  intro n
  induction n with
  |zero=>intro _ _;rfl
  |succ n a=>
   grind[sA]
 intro q
 induction q with
 |zero=>
  simp_all
 |succ q a=>
  grind[sA]
theorem vW(m x:List Ent):∀n,(∀j,j<n->L j=a29->∀id e,ww j=M (id,e)->id<m.length)->sS ww L (m++x) n=sS ww L m n++x
 |0,_=>rfl
 |n+1,h=>by
  have ih:=vW m x n λj hj=>h j U;simp only[sS];split
  .rename_i hL;split
   all_goals grind[lp]
  omega
theorem aj7(m:List Ent) {a:Nat->Bool}(hi:L i=a30) (hL':∀j,a j=(L j || j==i)):∀{q:Nat},i<q->(∀j,i<j->j<q->L j=a29->∀id e e',ww i=M (id,e)->ww j≠M (id,e'))->
 sS ww a m q=(match ww i with|some (id,e)=>(sS ww L m q).set id e|none=>sS ww L m q):=by
 have hlow:∀n,n<=i->sS ww a m n=sS ww L m n:=by
  intro n
  induction n with
  |zero=>intro _;rfl
  |succ n d=>
   grind[sS]
 intro q
 induction q with
 |zero=>omega
 |succ q d=>
  intro hq hw;by_cases hqi:q=i
  .simp_all[sS]
  .have f:a q=L q:=p5
   have c:=d U λj hj hjq=>hw j hj U;simp only[sS,f,c]
   cases hdi:ww i with
   |none=>simp
   |some p=>
    obtain⟨id,e⟩:=p;simp only;split
    .rename_i hLq;split
     .rename_i b e' hz;have hne:id≠b:=by
       grind
      grind[Uaj]
     .rfl
    .rfl
end
def I.X6:I->Option a34
 |.store _ x _=>M x
 |.trunc _ x _ _=>M x
 |.append _ _ x _=>M x
 |_=>u4
def I.src:I->Option a34
 |.append _ _ _ y=>M y
 |_=>u4
def Mf(s:St):I->Bool
 |.trunc _ x _ _=>match s.ev x with|.own ..=>a29|_=>a30
 |.append _ _ x _=>match s.ev x with|.own ..=>a29|_=>a30
 |_=>a29
theorem dI{i:I}(h:i.X6=M x):i.cls=3/\((∃n y,i=.store n x y)\/(∃S lo hi,i=.trunc S x lo hi)\/∃S b y,i=.append S b x y):=by
 cases i<;>simp[I.X6]at h
 .subst h;exact⟨rfl,.inl ⟨_,_,rfl⟩⟩
 .subst h;exact⟨rfl,.inr (.inr ⟨_,_,_,rfl⟩)⟩
 .subst h;exact⟨rfl,.inr (.inl ⟨_,_,_,rfl⟩)⟩
theorem qV{m1:List Ent}(he:ba s (.store n x y)=M (d,m1)) :
 ∃id e,je (s.ev x)=M id/\m1=s.m.set id e/\(∃e0,s.m[id]?=M e0)/\
  ∀s':St,(∀t∈(I.store n x y).reads,s'.t.getD t a!=s.t.getD t a!)->s'.m[id]?=s.m[id]?->ba s' (.store n x y)=M (d,s'.m.set id e):=by
 simp only[ba]at he;split at he
 .rename_i id Ca ix sub hx;split at he
  .rename_i S ver' l hm;split at he
   .rename_i hc;simp only[eah]at he;obtain⟨d0,h0,he⟩:=he;split at he
    .rename_i hc2;injection he with he;injection he with a h2;subst a;subst h2;refine⟨id,_,by rw[hx];rfl,rfl,⟨_,hm⟩,λs' ht hm'=>?_⟩;have ex:s'.ev x=s.ev x:=Ga (λt h=>ht t N');have ey:s'.ev y=s.ev y:=Ga (λt h=>ht t N')
     simp_all[ba]
    simp_all
   simp_all
  simp_all
 simp_all
theorem rV{lo hi:Option a34}{m1:List Ent}(hb:Mf s (.trunc S x lo hi)=a29) (he:ba s (.trunc S x lo hi)=M (d,m1)) :
 ∃id e,je (s.ev x)=M id/\m1=s.m.set id e/\(∃e0,s.m[id]?=M e0)/\
  ∀s':St,(∀t∈(I.trunc S x lo hi).reads,s'.t.getD t a!=s.t.getD t a!)->s'.m[id]?=s.m[id]?->ba s' (.trunc S x lo hi)=M (d,s'.m.set id e):=by
 simp only[Mf]at hb;split at hb
 .rename_i id Ca hx;simp only[ba,hx]at he;split at he
  .rename_i S' ver' l hm;split at he
   .rename_i a h hlo hhi;split at he
    .rename_i hc;injection he with he;injection he with b h2;subst b;subst h2;refine⟨id,_,by rw[hx];rfl,rfl,⟨_,hm⟩,λs' ht hm'=>?_⟩;have ex:s'.ev x=s.ev x:=Ga (λt h=>ht t N');have e1:bound s' 0 lo=bound s 0 lo:=Fq (λt h=>ht t N');have e2:bound s' l.length hi=bound s l.length hi:=Fq (λt h=>ht t N')
     simp_all[ba]
    simp_all
   simp_all
  simp_all
 simp_all
theorem LI{m m':List Ent}(h:∀id,je d=M id->m'[id]?=m[id]?):c! S m' d=c! S m d:=by
 cases d with
 |own id v=>simp only[c!];rw[h _ rfl]
 |view id v a b=>simp only[c!];rw[h _ rfl]
 |v x=>simp only[c!];grind
 |_=>rfl
theorem sV{m1:List Ent}(hb:Mf s (.append S b x y)=a29) (he:ba s (.append S b x y)=M (d,m1)) :
 ∃id e,je (s.ev x)=M id/\m1=s.m.set id e/\(∃e0,s.m[id]?=M e0)/\
  ∀s':St,(∀t∈(I.append S b x y).reads,s'.t.getD t a!=s.t.getD t a!)->s'.m[id]?=s.m[id]?->(∀a,je (s.ev y)=M a->s'.m[a]?=s.m[a]?)->ba s' (.append S b x y)=M (d,s'.m.set id e):=by
 simp only[Mf]at hb;split at hb
 .rename_i id Ca hx;simp only[ba,hx]at he;split at he
  .rename_i r hr;split at he
   .rename_i S' ver' l hm;split at he
    .rename_i hc;injection he with he;injection he with g h2;subst g;subst h2;refine⟨id,_,by rw[hx];rfl,rfl,⟨_,hm⟩,λs' ht c i=>?_⟩;have ex:s'.ev x=s.ev x:=Ga (λt h=>ht t N');have f:s'.ev y=s.ev y:=Ga (λt h=>ht t N');simp only[ba,ex,hx,c,hm,f,LI i,hr]
     simp_all
    simp_all
   simp_all
  simp_all
 simp_all
theorem NM{i:I}{m1:List Ent}(ht:i.X6=M x) (hb:Mf s i=a29) (he:ba s i=M (d,m1)) :
 ∃id e,je (s.ev x)=M id/\m1=s.m.set id e/\(∃e0,s.m[id]?=M e0)/\
  (∀s':St,(∀t∈i.reads,s'.t.getD t a!=s.t.getD t a!)->s'.m[id]?=s.m[id]?->(∀y,i.src=M y->∀a,je (s.ev y)=M a->s'.m[a]?=s.m[a]?)->ba s' i=M (d,s'.m.set id e)):=by
 rcases(dI ht).2 with⟨n,y,rfl⟩|⟨S,lo,hi,rfl⟩|⟨S,b,y,rfl⟩
 .grind[qV]
 .grind[rV]
 .obtain⟨id,e,c,h2,f,g⟩:=sV hb he;exact⟨id,e,c,h2,f,λs' h j k3=>g s' h j (k3 y rfl)⟩
theorem NO{i:I}{m1:List Ent}(f:i.src=M y) (he:ba s i=M (d,m1)) (h:je (s.ev y)=M id):∃e,s.m[id]?=M e:=by
 obtain⟨S,b,x,rfl⟩:∃S b x,i=.append S b x y:=by cases i<;>simp[I.src]at f;simp_all
 simp only[ba]at he;split at he
 .rename_i r hr
  cases g:s.ev y with
  |own a b=>grind[je,c!]
  |view a b c e=>grind[je,c!]
  |ref a b c e=>grind[c!]
  |mp a=>grind[c!]
  |_=>rw[g]at h;simp[je]at h
 simp_all
theorem Y6{i:I}(ht:i.X6=M x):∀t∈Ef x,t∈i.reads:=by
 rcases(dI ht).2 with⟨n,y,rfl⟩|⟨S,lo,hi,rfl⟩|⟨S,b,y,rfl⟩<;>intro t h<;>simp[I.reads,h]
theorem PW{i:I}(ht:i.X6=M x):i.at?=u4:=by
 rcases(dI ht).2 with⟨n,y,rfl⟩|⟨S,lo,hi,rfl⟩|⟨S,b,y,rfl⟩<;>rfl
theorem DG{i:I}(hc:i.cls=2) (ht:∀t∈i.reads,s'.t.getD t a!=s.t.getD t a!) (hm:s'.m.length=s.m.length) {m1:List Ent}(he:ba s i=M (d,m1)) :
 ∃e,m1=s.m++[e]/\ba s' i=M (d,s'.m++[e]):=by
 cases i with
 |alloc S z=>
  simp only[ba,M?,F!]at he⊢
  simp_all
 |box S x=>
  simp only[ba]at he⊢;rw[Ga (s:=s) (s':=s') (x:=x) (λt h=>ht t N')]
  simp_all
 |bslice S n z ps=>
  grind[ba,I.reads,Jt,A!]
 |mkslice S b z l c=>
  simp only[ba]at he⊢;rw[Ga (s:=s) (s':=s') (x:=l) (λt h=>ht t N'),Ga (s:=s) (s':=s') (x:=c) (λt h=>ht t N')]
  grind
 |mkmap=>
  simp only[ba,M?,F!]at he⊢
  simp_all
 |_=>simp[I.cls]at hc
mutual
def Gi:D->List Nat
 |.agg l=>Oe l
 |.tup l=>Oe l
 |.sl _ l=>Oe l
 |.pt d=>Gi d
 |.fn _ a b=>Oe a++Oe b
 |.ifc _ d=>Gi d
 |.own id _=>[id]
 |.view id _ _ _=>[id]
 |.ref id _ _ _=>[id]
 |.mp id=>[id]
 |.v _=>[]
 |a!=>[]
def Oe:List D->List Nat
 |[]=>[]
 |d::l=>Gi d++Oe l
end
mutual
theorem LH:∀{d:D},sa d=a29->Gi d=[]
 |.v _,_=>rfl
 |.agg l,h=>by simp only[sa]at h;simp only[Gi,Ep h]
 |.tup l,h=>by simp only[sa]at h;simp only[Gi,Ep h]
 |.sl _ l,h=>by simp only[sa]at h;simp only[Gi,Ep h]
 |.pt d,h=>by simp only[sa]at h;simp only[Gi,LH h]
 |.fn _ a b,h=>by simp only[sa,D?]at h;simp only[Gi,Ep h.1,Ep h.2,R?]
 |.ifc _ d,h=>by simp only[sa]at h;simp only[Gi,LH h]
 |.own ..,h=>by grind[sa]
 |.view ..,h=>by grind[sa]
 |.ref ..,h=>by grind[sa]
 |.mp _,h=>by grind[sa]
 |a!,_=>rfl
theorem Ep:∀{l:List D},ea l=a29->Oe l=[]
 |[],_=>rfl
 |d::l,h=>by simp only[ea,D?]at h;simp only[Oe,LH h.1,Ep h.2,R?]
end
def yb(s:St):List a34->List Nat
 |[]=>[]
 |x::l=>Gi (s.ev x)++yb s l
theorem CB{s:St}:∀{l:List a34},yb s l=Oe (l.map s.ev)
 |[]=>rfl
 |x::l=>by simp only[yb,w?,Oe,CB (l:=l)]
mutual
theorem MH{G:Gh}{w:a33}{id:Nat}:∀{d:D}{u:a32},VRel G w d u->id∈Gi d->id<G.n
 |.v x,u,h,hi=>by grind[Gi]
 |.agg l,u,h,hi=>by
  simp only[VRel]at h;simp only[Gi]at hi;obtain⟨cs,rfl,h,-⟩:=h;exact Sv h hi
 |.tup l,u,h,hi=>by
  simp only[VRel]at h;simp only[Gi]at hi;obtain⟨cs,rfl,h⟩:=h;exact Sv h hi
 |.sl S l,u,h,hi=>by
  simp only[VRel]at h;simp only[Gi]at hi;obtain⟨a,n,c,rfl,-,-,h|⟨b,off,rfl,-,h⟩⟩:=h
  .grind[Oe]
  .exact TM h hi
 |.pt d,u,h,hi=>by
  simp only[VRel]at h;simp only[Gi]at hi;obtain⟨b,off,x,rfl,-,h,-⟩:=h;exact MH h hi
 |.ref a b c e,u,h,hi=>by
  simp only[VRel]at h;grind[Gi]
 |.own a b,u,h,hi=>by
  simp only[VRel]at h;grind[Gi]
 |.view a b c e,u,h,hi=>by
  simp only[VRel]at h;grind[Gi]
 |.fn f a b,u,h,hi=>by
  simp only[VRel]at h;simp only[Gi,Ρ]at hi;obtain⟨fs,cs,rfl,g,h2⟩:=h;rcases hi with hi|hi
  .exact Sv g hi
  .exact Sv h2 hi
 |.mp a,u,h,hi=>by
  simp only[VRel]at h;grind[Gi]
 |.ifc t d,u,h,hi=>by
  simp only[VRel]at h;simp only[Gi]at hi;obtain⟨x,rfl,h⟩:=h;exact MH h hi
 |a!,u,h,hi=>by grind[Gi]
theorem Sv{G:Gh}{w:a33}{id:Nat}:∀{l:List D}{us:List a32},VsRel G w l us->id∈Oe l->id<G.n
 |[],us,h,hi=>by grind[Oe]
 |d::l,us,h,hi=>by
  simp only[VsRel]at h;simp only[Oe,Ρ]at hi;obtain⟨u,r,rfl,a,h2⟩:=h;rcases hi with hi|hi
  .exact MH a hi
  .exact Sv h2 hi
theorem TM{G:Gh}{w:a33}{id b S:Nat}:∀{l:List D}{off:Nat},Va G w b S l off->id∈Oe l->id<G.n
 |[],off,h,hi=>by grind[Oe]
 |d::l,off,h,hi=>by
  simp only[Va]at h;simp only[Oe,Ρ]at hi;obtain⟨⟨u,a,-⟩,h2⟩:=h;rcases hi with hi|hi
  .exact MH a hi
  .exact TM h2 hi
end
def Uu(s:St):List a34->List Nat
 |[]=>[]
 |x::l=>match je (s.ev x)with|some id=>id::Uu s l|none=>Uu s l
def Nd(s:St):RI->List Nat
 |.op _ _ i=>
  match i.at? with
  |some x=>Uu s [x]
  |none=>match i.X6 with|some x=>Uu s (x::i.src.toList)|none=>[]
 |.call _ _ _ args=>yb s args
theorem DZ{l:List a34}(h:je (s.ev x)=M id):id∈Uu s (x::l):=by grind[Uu]
theorem ae8{l:List a34}(h:id∈Uu s l):id∈Uu s (x::l):=by grind[Uu]
theorem BT(h:je (s.ev x)=M id):id∈Uu s [x]:=by grind[Uu]
abbrev Os:=List (D×List Ent×Option (Nat×Ent))
def os0:D×List Ent×Option (Nat×Ent):=(a!,[],u4)
def pZ:RI:=.op u4 u4 (.mv (.const undef))
def Gx(P:a35) (r:RI) (s:St) (d:D) (x:List Ent) (w:Option (Nat×Ent)):Prop:=
 match r with
 |.op _ g i=>((d? s g=M u4\/∃c,d? s g=M (M (c,c)))/\
  ((w=u4/\i.cls<=2/\ba s i=M (d,s.m++x))\/(x=[]/\∃a id e,i.X6=M a/\je (s.ev a)=M id/\w=M (id,e)/\ba s i=M (d,s.m.set id e)/\id<s.m.length/\Mf s i=a29)))\/
  ((∃c b,d? s g=M (M (c,b))/\c≠b)/\d=.v undef/\x=[]/\w=u4)
 |.call _ g f args=>x=[]/\w=u4/\
  ((∃k first caps,s.cv f=.fn k first caps/\(d? s g=M u4\/∃c,d? s g=M (M (c,c)))/\(∀id∈yb s args,id<s.m.length)/\∀m,(∀id∈yb s args,m[id]?=s.m[id]?)->CallT P k (first++args.map s.ev++caps) m λd' m'=>d'=d/\m'=m)\/((∃c b,d? s g=M (M (c,b))/\c≠b)/\d=.v undef))
def wr(m:List Ent) (w:Option (Nat×Ent)):List Ent:=match w with|some (id,e)=>m.set id e|none=>m
def El(s:St) (r:RI) (d:D) (x:List Ent) (w:Option (Nat×Ent)):St:=({ s with m:=wr s.m w++x }:St).put r.dst d
theorem vI(s:St) (r:RI) (d:D) (x:List Ent) (w:Option (Nat×Ent)):El s r d x w=⟨(match r.dst with|some y=>s.t.set y d|none=>s.t),wr s.m w++x⟩:=by
 grind[El,St.put]
section
variable {P:a35}
def K2(rl:List RI) (i:Nat):Option Tmp:=(rl.getD i pZ).dst
def ddC(os:Os) (i:Nat):D:=(os.getD i os0).1
def uL(os:Os) (i:Nat):List Ent:=(os.getD i os0).2.1
def NZ(os:Os) (i:Nat):Option (Nat×Ent):=(os.getD i os0).2.2
def Ao(rl:List RI) (os:Os) (s:St) (L:Nat->Bool) (n:Nat):St:=
 ⟨tS (K2 rl) (ddC os) L s.t n,sS (NZ os) L (mS (uL os) L s.m n) n⟩
theorem Gx.lt{x:List Ent}{w:Option (Nat×Ent)}(h:Gx P r s d x w) (hw:w=M (id,e)):id<s.m.length/\x=[]/\id∈Nd s r:=by
 subst hw
 cases r with
 |call dst g f args=>obtain⟨_,h,_⟩:=h;cases h
 |op dst g i=>
  rcases h with⟨_,⟨h,_⟩|⟨hx,a,id',e',ht,h1,h2,h3,h4,_⟩⟩|⟨_,_,_,h⟩
  all_goals grind[Nd,PW,DZ]
theorem nW{G:Gh}{w:a33}(hr:p! G w a s) (h:je (s.ev x)=M id):id<s.m.length:=by
 have hv:=hr.ev x;have hn:=hr.inv.n;generalize s.ev x=d at *;cases d<;>simp only[je,reduceCtorEq,M?]at h
 .subst h;simp only[VRel]at hv;omega
 .subst h;simp only[VRel]at hv;omega
 .subst h;simp only[VRel]at hv;omega
 .subst h;simp only[VRel]at hv;omega
theorem at7(hc:yp P ops o=M r) {x:List Ent}{H:Option (Nat×Ent)}(hf:Gx P r sc d x H) (ht:∀t∈r.reads,s.t.getD t a!=sc.t.getD t a!)
 (hm:r.cls=2->s.m.length=sc.m.length) (o0:∀(id:Nat),id∈Nd sc r->(∃e,sc.m[id]?=M e)->id<s.m.length->s.m[id]?=sc.m[id]?)
 {G:Gh} {w:a33} (hr:p! G w a s) (hi:ops[i]?=M o) {Q:Exit->Act->a33->Prop} {K:Act->a33->Prop}
 (Z:∀G' w' a',p! G' w' a' (El s r d x H)->Step G w s.m G' w' (wr s.m H++x)->(∀id e,H=M (id,e)->id<s.m.length)->K a' w'):wpOp P ops Q i K a w:=by
 have O:=Hy hc;unfold wpOp;simp only[hi];unfold yp at hc;split at hc
 .grind
 .rename_i g hg;obtain⟨hgate1,hgate2⟩:=Yn hr hg;have hgt:d? s g=d? sc g:=AJ (λt h=>ht t (by
   split at hc
   .grind[RI.reads]
   .simp only[A!]at hc;obtain⟨i,-,rfl⟩:=hc
    grind[RI.reads]))
  have Y:(d? sc g=M u4\/∃c,d? sc g=M (M (c,c)))->Region.wanted o (yielded ops a.tmps)=a29:=by
   grind
  have woff:(∃c b,d? sc g=M (M (c,b))/\c≠b)->Region.wanted o (yielded ops a.tmps)=a30:=by
   grind
  have skip:d=.v undef->x=[]->H=u4->K (a.put o.dst undef) w:=by
   rintro rfl rfl rfl;refine Z G w _ ?_ (by rw[R?];exact Step.refl _ _ _) (λ_ _ h=>by cases h);unfold El;rw[O,R?];exact DE hr o.dst
  split at hc
  .rename_i f args ho;injection hc with hc;subst hc;obtain⟨rfl,rfl,hf⟩:=hf;have l:args.map s.ev=args.map sc.ev:=N? (λt h=>ht t (by grind[RI.reads]));rcases hf with⟨k,first,caps,hfe,E,S,C⟩|⟨V,hd⟩
   .have R:s.cv f=.fn k first caps:=by grind[RI.reads,MI]
    rw[J (Y E)];refine .inl ?_;obtain⟨⟨fn,e1,e2,e3⟩,N⟩:=C s.m λid q=>by
     refine o0 id q ⟨_,x! (S id q)⟩ ?_;rw[CB,←l]at q;rw[←hr.inv.n];exact Sv (UA hr _) q
    obtain⟨fs,cs,W,hv1,hv2⟩:=MA hr ho (caa R) e1 e2 e3;rw[←l]at N;have z:=N G w (fs++args.map a.eval++cs) ((hv1.append (UA hr _)).append hv2) hr.inv;unfold Oper.wp;rw[W,Oper.upon_enter];refine z.mono ?_;rintro e w' ⟨v,d',m',G',rfl,⟨rfl,rfl⟩,hvd,hi',A⟩;refine Z G' w' _ ?_ (by rw[R?];exact A) (λ_ _ h=>by cases h);unfold El;rw[R?];exact(hr.step A.le hi').put o.dst hvd
   simp_all
  .rename_i hno;simp only[A!]at hc;obtain⟨j,hj,rfl⟩:=hc;rcases hf with⟨E,p⟩|⟨V,hd,hx,hw⟩
   .rw[J (Y E)];refine .inl ?_;have F:∀t∈j.reads,s.t.getD t a!=sc.t.getD t a!:=λt h=>ht t (by grind[RI.reads]);have n6:∀y,(∀t∈Ef y,t∈j.reads)->s.ev y=sc.ev y:=λy L=>Ga (λt h=>F t (L t h));have B:ba s j=M (d,wr s.m H++x)/\(∀id e,H=M (id,e)->id<s.m.length):=by
     simp only[RI.cls]at hm;rcases p with⟨rfl,hcls,p⟩|⟨rfl,a1,id,e,htg,X,rfl,p,hlt,hsb⟩
     .refine⟨?_,λ_ _ h=>by cases h⟩;simp only[wr];by_cases h2:j.cls=2
      .grind[DG,List.append_cancel_left]
      .have o4:j.cls<=1:=U
       obtain⟨hxm,hres⟩:=Gq (s:=sc) (s':=s) o4 F (λy id L q=>by
        have hevy:s.ev y=sc.ev y:=n6 y (λt h=>by
         cases j<;>simp only[I.at?,reduceCtorEq,M?]at L<;>subst L<;>simp[I.reads,h])
        grind[Nd,BT,CG,nW]) p
       simp_all
     .obtain⟨id',e',o4,h2,h3,h4⟩:=NM htg hsb p;rw[X]at o4;injection o4 with o4;subst o4;have T:id<s.m.length:=nW hr (x:=a1) (by grind[Y6]);have hee:e=e':=by
       have:=congrArg (λm=>m[id]?) h2
       grind
      subst hee;refine⟨?_,λid2 e2 h=>p5⟩;rw[R?];refine h4 s F (o0 id (by grind[Nd,PW,DZ]) h3 T) λy L id' hid'=>?_;have hey:s.ev y=sc.ev y:=n6 y (by
       cases j<;>simp[I.src]at L
       grind[I.reads])
      grind[Nd,PW,ae8,BT,nW,NO]
    exact hr.Ql (OA hj hr B.1) λG' w' u hr' A=>Z G' w' _ hr' A B.2
   simp_all
end
def RI.pH(y:RI):Bool:=
 match y with
 |.op _ _ i=>D1 (i.cls<=2) || i.X6.isSome
 |.call ..=>a29
section
variable {P:a35} {ops:Array Oper} {Q:Exit->Act->a33->Prop} {K:St->Prop} {rl:List RI} {q:Nat} {ps:List (List Nat)}
end
def qS:Nat->Nat->Bool
 |0,0=>a30
 |0,_+1=>a29
 |_+1,0=>a29
 |a+1,b+1=>qS a b
theorem Yab:∀{a b:Nat},qS a b=a29->a≠b
 |0,0,h=>by grind[qS]
 |0,_+1,_=>U
 |_+1,0,_=>U
 |a+1,b+1,h=>by have:=Yab (a:=a) (b:=b) h;omega
def Sz(a:Nat):List Nat->Bool
 |[]=>a29
 |b::l=>qS a b&&Sz a l
def Zq:List Nat->List Nat->Bool
 |[],_=>a29
 |a::l,r=>Sz a r&&Zq l r
theorem kM{a b:Nat}:∀{l:List Nat},Sz a l=a29->b∈l->a≠b
 |[],_,h=>by cases h
 |c::l,h,hm=>by
  simp only[Sz,D?]at h;rcases X'.1 hm with rfl|hm
  .grind[Yab]
  .exact kM h.2 hm
theorem lM{a:Nat}:∀{l r:List Nat},Zq l r=a29->a∈l->a∉r
 |[],_,_,h=>by cases h
 |c::l,r,h,hm=>by
  simp only[Zq,D?]at h;rcases X'.1 hm with rfl|hm
  .exact λhr=>kM h.1 hr rfl
  .exact lM h.2 hm
def Mx(fp:List (List Nat)) (f:List Nat):List Nat->Bool
 |[]=>a29
 |i::l=>Zq (fp.getD i []) f&&Mx fp f l
theorem AH{fp:List (List Nat)}{f:List Nat}{k:Nat}:∀{l:List Nat},Mx fp f l=a29->k∈l->Zq (fp.getD k []) f=a29
 |[],_,h=>by cases h
 |z::l,h,hm=>by
  simp only[Mx,D?]at h;rcases X'.1 hm with rfl|hm
  .grind
  .exact AH h.2 hm
def Az(P:a35):List (List Nat)->List (List Nat)->Nat->List RI->(St->Prop)->St->Prop
 |_,_,0,l,K,s=>Wf P l K s
 |_,_,_+1,[],_,_=>False
 |ps,fp,q+1,.op dst g i::l,K,s=>
  Mx fp (Nd s (.op dst g i)) (ps.headD [])=a29/\
  match d? s g with
  |none=>False
  |some u4=>∃d m',Mf s i=a29/\ba s i=M (d,m')/\Az P ps.tail (fp++[Nd s (.op dst g i)]) q l K ({ s with m:=m' }.put dst d)
  |some (M (c,b))=>(c=b->∃d m',Mf s i=a29/\ba s i=M (d,m')/\Az P ps.tail (fp++[Nd s (.op dst g i)]) q l K ({ s with m:=m' }.put dst d))/\(c≠b->Az P ps.tail (fp++[Nd s (.op dst g i)]) q l K (s.put dst (.v undef)))
 |ps,fp,q+1,.call dst g f args::l,K,s=>
  match s.cv f with
  |.fn k first caps=>
   match d? s g with
   |none=>False
   |some u4=>Mx fp (yb s args) (ps.headD [])=a29/\∃d,((∀id∈yb s args,id<s.m.length)/\∀m,(∀id∈yb s args,m[id]?=s.m[id]?)->CallT P k (first++args.map s.ev++caps) m λd' m'=>d'=d/\m'=m)/\Az P ps.tail (fp++[yb s args]) q l K (s.put dst d)
   |some (M (c,b))=>Mx fp (yb s args) (ps.headD [])=a29/\(c=b->∃d,((∀id∈yb s args,id<s.m.length)/\∀m,(∀id∈yb s args,m[id]?=s.m[id]?)->CallT P k (first++args.map s.ev++caps) m λd' m'=>d'=d/\m'=m)/\Az P ps.tail (fp++[yb s args]) q l K (s.put dst d))/\(c≠b->Az P ps.tail (fp++[yb s args]) q l K (s.put dst (.v undef)))
  |_=>False
section
variable {P:a35} {K:St->Prop}
end
section
variable {P:a35} {N:Nat} {ops:Array Oper} {Q:Exit->Act->a33->Prop} {K:St->Prop} {rl:List RI} {q:Nat} {ps:List (List Nat)}
end
open Go.RowKit (Below)
theorem JF{G:Gh}{w:a33}{m:List Ent}(hi:Inv G w m) (hm:m[p]?=M (i? S Ca [])) (l:List D) (C:Nat) (cs:Array a32) (T:TypeId)
 (hr:Ug G w S l cs) (hC:l.length<=C) (hcs:C*S<=cs.size) :
 Inv (G.Xb p (M w.heap.size) (Ca+1) l.length (C,0)) (w.alloc (.cells cs T)) (m.set p (i? S (Ca+1) l))/\
  Step G w m (G.Xb p (M w.heap.size) (Ca+1) l.length (C,0)) (w.alloc (.cells cs T)) (m.set p (i? S (Ca+1) l)):=by
 have a:∀k,k<w.heap.size->(w.alloc (.cells cs T)).heap[k]?=w.heap[k]?:=λk hk=>Below.heap_alloc _ _ _ hk;obtain⟨hV,hS,-⟩:=hi.ent p _ hm;refine Gg hi hm rfl rfl _ _ _ _ (.inl U) rfl rfl rfl p6 (λk hk _=>a k hk) (λk h=>p5) ?_;have c:Le G w (G.Xb p (M w.heap.size) (Ca+1) l.length (C,0)) (w.alloc (.cells cs T)):=by
  refine⟨λ_ h=>h,λk hk=>a k (hi.F k hk),A' _,λi _=>?_⟩
  grind[Gh.Xb]
 have b:(w.alloc (.cells cs T)).heap[w.heap.size]?=M (.cells cs T (0,0)):=by
  show(w.heap.push (.cells cs T))[w.heap.size]?=_;simp
 refine⟨by simp[Gh.Xb],by grind[Gh.Xb],by simp[Gh.Xb],by grind[Gh.Xb],.inr ⟨w.heap.size,cs,T,by simp[Gh.Xb],λh=>?_,b,by grind[Gh.Xb],by simpa [Gh.Xb] using Zk b (hr.mono c)⟩⟩;have:=hi.F _ h;omega
def Bl(s:St) (p:Nat):I->Option (D×Ent)
 |.alloc S z=>match s.m[p]? with
  |some (i? S' Ca [])=>if S'=S then M (.ref p (Ca+1) 0 0,i? S (Ca+1) [z])else u4
  |_=>u4
 |.box S x=>match s.m[p]? with
  |some (i? S' Ca [])=>if S'=S/\(s.ev x).ok=a29/\(s.ev x).cells.length=S then M (.ref p (Ca+1) 0 0,i? S (Ca+1) [s.ev x])else u4
  |_=>u4
 |.bslice S n z ps=>match s.m[p]? with
  |some (i? S' Ca [])=>if S'=S then(oa s S ps (h! n z)).map λl=>(.own p (Ca+1),i? S (Ca+1) l)else u4
  |_=>u4
 |_=>u4
section
variable {P:a35} {G:Gh} {w:a33} {a:Act} {s:St} {d:D} {e:Ent} {p:Nat}
theorem MS{w':a33}{C N:Nat}(hp:p<G.n):VRel (G.Xb p (M b) (Ca+1) N (C,0)) w' (.ref p (Ca+1) 0 0) (.pointer (M ⟨b,0,u4⟩)):=by
 simp only[VRel];exact⟨_,rfl,by grind[Gh.Xb],by simp[Gh.Xb],λ_=>⟨b,by simp[Gh.Xb],by simp[Gh.Xb]⟩⟩
theorem oac{w':a33}{C N:Nat}(hp:p<G.n):VRel (G.Xb p (M b) (Ca+1) N (C,0)) w' (.own p (Ca+1)) (.slice (M ⟨b,0,u4⟩) N C):=by
 simp only[VRel];exact⟨_,_,_,rfl,by grind[Gh.Xb],by simp[Gh.Xb],λ_=>⟨by simp[Gh.Xb],by simp[Gh.Xb],by simp[Gh.Xb]⟩⟩
theorem au3(hr:p! G w a s) (ho:o.op=.alloc t) (f:u? P t=M z) (he:Bl s p (.alloc z.cells.size (y? z))=M (d,e)) :
 q? G w s.m ((execOp a.eval o).run P w) d (s.m.set p e):=by
 simp only[Bl]at he;split at he
 .rename_i S' Ca hm;split at he
  .rename_i hS;subst hS;injection he with he;injection he with c h2;subst c;subst h2;obtain⟨hz1,b,hz3,-⟩:=uo f w;obtain⟨g1,g2⟩:=JF hr.inv hm [y? z] 1 z.cells t (yB (oy z b) rfl (VN b)) p6 p6;refine⟨_,_,_,?_,.inl ⟨_,rfl,MS (C:=1) (N:=1) (by rw[hr.inv.n];grind)⟩,g1,g2⟩
   simp_all[execOp,Instr.alloc,newVar,newRow]
  simp_all
 simp_all
theorem bH4(hr:p! G w a s) (ho:o.op=.box t x) (he:Bl s p (.box S x)=M (d,e)) :
 q? G w s.m ((execOp a.eval o).run P w) d (s.m.set p e):=by
 simp only[Bl]at he;split at he
 .rename_i S' Ca hm;split at he
  .rename_i hc;obtain⟨rfl,f,hlen⟩:=hc;injection he with he;injection he with b h2;subst b;subst h2;have hx:=hr.ev x;obtain⟨hv,b⟩:=hx.cells f;have g:(a.eval x).cells.size=S':=by rw[←vah,hv.length];omega
   obtain⟨g1,g2⟩:=JF hr.inv hm [s.ev x] 1 (a.eval x).cells t (yB hx g (λj c hj=>b c s5)) p6 U;refine⟨_,_,_,?_,.inl ⟨_,rfl,MS (C:=1) (N:=1) (by rw[hr.inv.n];grind)⟩,g1,g2⟩
   simp_all[execOp,Instr.box,newVar,newRow]
  simp_all
 simp_all
theorem Vaa(hr:p! G w a s) {e':TypeId}{ps:Array (Nat×a34)}(ho:o.op=.buildSlice t n ps)
 (ht:P.underlying t=M (.slice e')) (y:u? P e'=M z) (hsmall:n*z.cells.size<=2 ^ 24) (he:Bl s p (.bslice z.cells.size n (y? z) ps.toList)=M (d,e)) :
 q? G w s.m ((execOp a.eval o).run P w) d (s.m.set p e):=by
 simp only[Bl]at he;split at he
 .rename_i S' Ca hm;split at he
  .rename_i hS;subst hS;simp only[A!,F!]at he;obtain⟨l,hb,rfl,rfl⟩:=he;obtain⟨u,v,hz3,i,hi,c,hzz⟩:=uo y w;obtain⟨cells,hf,g,hcs,b⟩:=RO hr hb (Bu v n) p6;simp only[List.length_replicate]at b;obtain⟨g1,g2⟩:=JF hr.inv hm l n cells e' g U p5;refine⟨_,_,_,?_,.inl ⟨_,rfl,oac (N:=l.length) (C:=n) (by rw[hr.inv.n];grind)⟩,g1,g2⟩;unfold execOp;simp only[ho];have q:¬(2 ^ 24<n*i.size):=p5
   by_cases x:n*i.size=0
   .have j:n=0:=by
     grind[Nat.mul_eq_zero]
    subst j;rw[c.symm]at hf;rw[Nat.zero_mul,show Rai 0 = #[]from rfl,Array.map_empty]at hf;have h:Instr.fill (λk=>M (k*i.size,i.size)) #[] (ps.toList.map λp=>(p.1,a.eval p.2))=M cells:=hf;have r:∀f:Nat->a32,Array.map f (Rai 0) = #[]:=λf=>p6
    simp[Instr.buildSlice,run_underlying ht,Zd hi,r,h,newRow,b]
   .rw[c.symm]at hf;simp[Instr.buildSlice,run_underlying ht,Zd hi,q,x,u,hf,newRow,b,c.symm]
  simp_all
 simp_all
theorem DW{i:I}(hc:Rs P ops o o.op=M i) (hr:p! G w a s) (he:Bl s p i=M (d,e)):q? G w s.m ((execOp a.eval o).run P w) d (s.m.set p e):=by
 cases i with
 |alloc S z=>
  obtain⟨t,b,ho,f,rfl,rfl⟩:∃t b,o.op=.alloc t/\u? P t=M b/\b.cells.size=S/\y? b=z:=by
   unfold Rs at hc;split at hc
   .grind[EB,A!]
   .unfold tG at hc
    repeat' split at hc
    all_goals first
     |cases hc
     |(
      simp only[A!]at hc;obtain⟨b,f,h⟩:=hc
      first|cases h|skip)
    simp_all
  grind[au3]
 |box S x=>
  obtain⟨t,ho⟩:∃t,o.op=.box t x:=by
   unfold Rs at hc;split at hc
   .grind[EB,A!]
   .unfold tG at hc
    grind[A!]
  grind[bH4]
 |bslice S n z ps=>
  obtain⟨t,e',c,b,ho,ht,f,hsmall,rfl,rfl,rfl⟩:∃t e' c b,o.op=.buildSlice t n c/\P.underlying t=M (.slice e')/\u? P e'=M b/\n*b.cells.size<=2 ^ 24/\b.cells.size=S/\y? b=z/\c.toList=ps:=by
   unfold Rs at hc;split at hc
   .grind[EB,A!]
   .unfold tG at hc
    repeat' split at hc
    all_goals first
     |(cases hc;exact⟨_,_,_,_,U,U,U,U,rfl,rfl,rfl⟩)
     |cases hc
     |(
      simp only[A!]at hc;obtain⟨b,f,h⟩:=hc;cases h)
  grind[Vaa]
 |_=>simp[Bl]at he
end
theorem DR{i:I}(ht:∀t∈i.reads,s'.t.getD t a!=s.t.getD t a!) (hm:s'.m[p]?=s.m[p]?):Bl s' p i=Bl s p i:=by
 cases i with
 |alloc S z=>grind[Bl]
 |box S x=>
  grind[I.reads,Bl,Ga]
 |bslice S n z ps=>
  grind[I.reads,Bl,Jt]
 |_=>rfl
theorem CR{i:I}(h:Bl s p i=M (d,e)):p<s.m.length:=by
 rcases Ο p s.m.length with a|a
 .omega
 .have hn:=List.getElem?_eq_none a;cases i<;>simp[Bl,hn]at h
def LA:Option Nat->St->RI->List Nat
 |some p,_,.op ..=>[p]
 |some _,s,.call _ _ _ args=>yb s args
 |none,s,r=>Nd s r
def Mn(P:a35) (o:Option Nat) (r:RI) (s:St) (d:D) (x:List Ent) (w:Option (Nat×Ent)):Prop:=
 match o with
 |none=>Gx P r s d x w
 |some p=>(∃dst i e,r=.op dst u4 i/\x=[]/\w=M (p,e)/\Bl s p i=M (d,e))\/
  (∃dst f args k first caps e,r=.call dst u4 f args/\x=[]/\w=M (p,e)/\s.cv f=.fn k first caps/\p∈yb s args/\(∀id∈yb s args,id<s.m.length)/\
   ∀m,(∀id∈yb s args,m[id]?=s.m[id]?)->CallT P k (first++args.map s.ev++caps) m λd' m'=>d'=d/\m'=m.set p e)
def pO(pl:List (Option Nat)) (i:Nat):Option Nat:=pl.getD i u4
theorem dZ{pl:List (Option Nat)}:(pl.drop k).headD u4=pO pl k:=by
 simp_all[pO]
theorem tail_drop{pl:List (Option Nat)}:(pl.drop k).tail=pl.drop (k+1):=p6
theorem aC0{xx:Nat->List Ent}{L:Nat->Bool}(m:List Ent):∀n,m.length<=(mS xx L m n).length
 |0=>A' _
 |n+1=>by
  have:=aC0 (xx:=xx) (L:=L) m n
  grind[mS]
def Nz(P:a35):List (Option Nat)->List RI->St->Os->List (List Nat)->St->Prop
 |_,[],s,os,rs,s'=>os=[]/\rs=[]/\s'=s
 |pl,r::l,s,os,rs,s'=>∃d x w os' a,os=(d,x,w)::os'/\rs=LA (pl.headD u4) s r::a/\Mn P (pl.headD u4) r s d x w/\Nz P pl.tail l (El s r d x w) os' a s'
section
variable {P:a35}
theorem Nz.length:∀{l:List RI}{pl:List (Option Nat)}{s s':St}{os:Os}{rs:List (List Nat)},Nz P pl l s os rs s'->os.length=l.length
 |[],pl,s,s',os,rs,h=>by simp[h.1]
 |r::l,pl,s,s',os,rs,h=>by
  obtain⟨d,x,w,os',rs',rfl,rfl,_,h⟩:=h;simp[Nz.length h]
theorem Mn.lt{o:Option Nat}{r:RI}{s:St}{d:D}{x:List Ent}{w:Option (Nat×Ent)}(h:Mn P o r s d x w) {id:Nat}{e:Ent}(hw:w=M (id,e)):id<s.m.length/\x=[]/\id∈LA o s r:=by
 cases o with
 |none=>exact Gx.lt h hw
 |some p=>
  rcases h with⟨dst,i,e',rfl,hx,a,hf⟩|⟨dst,f,args,k,first,caps,e',rfl,hx,a,hf,c,hl,_⟩
  .rw[a]at hw;injection hw with hw;injection hw with b h2;subst b;exact⟨CR hf,hx,by simp[LA]⟩
  .rw[a]at hw;injection hw with hw;injection hw with b h2;subst b;exact⟨hl _ c,hx,c⟩
theorem Nz.get{pl:List (Option Nat)}{rl:List RI}{os:Os}{s0:St}:∀{l:List RI}{k:Nat}{s':St}{os':Os}{rs:List (List Nat)},l=(rl.drop k).take l.length->os'=(os.drop k).take os'.length->
 (∀j,j<k->∀id e,NZ os j=M (id,e)->id<(mS (uL os) (λ_=>a29) s0.m k).length)->Nz P (pl.drop k) l (Ao rl os s0 (λ_=>a29) k) os' rs s'->
 (∀i,i<l.length->Mn P (pO pl (k+i)) (rl.getD (k+i) pZ) (Ao rl os s0 (λ_=>a29) (k+i)) (ddC os (k+i)) (uL os (k+i)) (NZ os (k+i))/\rs.getD i []=LA (pO pl (k+i)) (Ao rl os s0 (λ_=>a29) (k+i)) (rl.getD (k+i) pZ))/\s'=Ao rl os s0 (λ_=>a29) (k+l.length)
 |[],k,s',os',rs,_,_,_,h=>⟨λi hi=>s5,by simpa using h.2.2⟩
 |r::l,k,s',os',rs,q,h2,hv,h=>by
  obtain⟨d,x,w,a,rs',rfl,rfl,n,h⟩:=h;rw[dZ]at n;rw[tail_drop]at h;have hr:rl[k]?=M r:=by
   have:=congrArg (λl=>l[0]?) q
   grind
  have ho:os[k]?=M (d,x,w):=by
   have:=congrArg (λl=>l[0]?) h2
   grind
  have g:rl.getD k pZ=r:=p5
  have ho':os.getD k os0=(d,x,w):=p5
  have hd:ddC os k=d:=by grind[ddC]
  have hx:uL os k=x:=by grind[uL]
  have hw:NZ os k=w:=by grind[NZ]
  have hds:K2 rl k=r.dst:=by grind[K2]
  have c:mS (uL os) (λ_=>a29) s0.m (k+1)=mS (uL os) (λ_=>a29) s0.m k++x:=by grind[mS]
  have b:El (Ao rl os s0 (λ_=>a29) k) r d x w=Ao rl os s0 (λ_=>a29) (k+1):=by
   rw[vI];simp only[Ao,tS,B?,St.mk.injEq];refine⟨s5,?_⟩;rw[c];simp only[sS,B?,hw];rw[vW _ _ _ λj hj _ id e he=>hv j hj id e he]
   cases w with
   |none=>rfl
   |some p=>
    obtain⟨id,e⟩:=p;obtain⟨_,hx0,_⟩:=n.lt rfl
    grind[wr]
  have o:∀j,j<k+1->∀id e,NZ os j=M (id,e)->id<(mS (uL os) (λ_=>a29) s0.m (k+1)).length:=by
   intro j hj id e he;rw[c,G!];by_cases f:j=k
   .subst f;rw[hw]at he;have:=(n.lt he).1
    grind[Ao,lp]
   .have:=hv j U id e he;omega
  rw[b]at h;have t1:l=(rl.drop (k+1)).take l.length:=by
   grind[Eaf]
  have t2:a=(os.drop (k+1)).take a.length:=by
   grind[Eaf]
  obtain⟨g1,g2⟩:=Nz.get t1 t2 o h;refine⟨λi hi=>?_,s5⟩
  cases i with
  |zero=>simp only[Nat.add_zero,g,hd,hx,hw];grind[dZ]
  |succ i=>
   have:=g1 i s5
   grind
theorem at6(hc:yp P ops o=M r) {x:List Ent}{O:Option (Nat×Ent)}{N:Option Nat}(hf:Mn P N r sc d x O) (ht:∀t∈r.reads,s.t.getD t a!=sc.t.getD t a!)
 (hm:N=u4->r.cls=2->s.m.length=sc.m.length) (o4:∀(id:Nat),id∈LA N sc r->(∃e,sc.m[id]?=M e)->id<s.m.length->s.m[id]?=sc.m[id]?) (B:∀p,N=M p->p<s.m.length)
 {G:Gh} {w:a33} (hr:p! G w a s) (hi:ops[i]?=M o) {Q:Exit->Act->a33->Prop} {K:Act->a33->Prop}
 (S:∀G' w' a',p! G' w' a' (El s r d x O)->Step G w s.m G' w' (wr s.m O++x)->(∀id e,O=M (id,e)->id<s.m.length)->K a' w'):wpOp P ops Q i K a w:=by
 cases N with
 |none=>exact at7 hc hf ht (hm rfl) o4 hr hi S
 |some p=>
  rcases hf with⟨dst,j,e,rfl,rfl,rfl,E⟩|⟨dst,f,args,k,first,caps,e,rfl,rfl,rfl,hfe,hpt,I,C⟩
  rotate_left
  .have A:=Hy hc;have hp:=B p rfl;unfold wpOp;simp only[hi];unfold yp at hc;split at hc
   .grind
   .rename_i g T;split at hc
    .rename_i Y args' ho;injection hc with hc;injection hc with Z h2 R h4;subst h2;subst R;subst h4;obtain⟨b,y⟩:=Yn hr T;rw[J (b rfl o rfl)];refine .inl ?_;have H:s.cv Y=.fn k first caps:=by grind[RI.reads,MI]
     have c:args'.map s.ev=args'.map sc.ev:=N? (λt h=>ht t (by grind[RI.reads]));obtain⟨⟨fn,e1,e2,e3⟩,F⟩:=C s.m λid z=>by
      refine o4 id z ⟨_,x! (I id z)⟩ ?_;rw[CB,←c]at z;rw[←hr.inv.n];exact Sv (UA hr _) z
     obtain⟨fs,cs,L,V,W⟩:=MA hr ho (caa H) e1 e2 e3;rw[←c]at F;have l:=F G w (fs++args'.map a.eval++cs) ((V.append (UA hr _)).append W) hr.inv;unfold Oper.wp;rw[L,Oper.upon_enter];refine l.mono ?_;rintro e0 w' ⟨v,d',m',G',rfl,⟨rfl,rfl⟩,X,o0,n6⟩;refine S G' w' _ ?_ (by grind[wr]) (λid e' h=>p5);unfold El;rw[R?];rw[A];exact(hr.step n6.le o0).put o.dst X
    simp_all
  have A:=Hy hc;have hp:=B p rfl;have hat:=CR E;have q:Bl s p j=M (d,e):=by
   grind[RI.reads,LA,DR]
  unfold wpOp;simp only[hi];unfold yp at hc;split at hc
  .grind
  .rename_i g T;split at hc
   .simp_all
   .rename_i hno;simp only[A!]at hc;obtain⟨j',hj,h⟩:=hc;injection h with Z h2 R;subst h2;subst R;obtain⟨b,y⟩:=Yn hr T;rw[J (b rfl o rfl)];refine .inl ?_;exact hr.Ql (DW hj hr q) λG' w' u hr' n6=>S G' w' _ (by grind[El,wr]) (by grind[wr]) (λid e' h=>p5)
end
def wB(o:Option Nat):RI->Bool
 |.op _ _ i=>o.isSome || i.X6.isSome
 |.call ..=>o.isSome
def lB(o:Option Nat):RI->Bool
 |.op _ _ i=>o.isSome || i.X6.isSome || i.at?.isSome
 |.call ..=>a29
def Hw(o a:Option Nat) (x y:RI):Bool:=(wB o x&&lB a y) || (wB a y&&lB o x)
def jx(o a:Option Nat) (x y:RI):Bool:=
 (
  match x.dst with
  |some t=>y.reads.contains t || y.dst==M t
  |none=>a30) ||
 (
  match y.dst with
  |some t=>x.reads.contains t
  |none=>a30) ||
 (o.isNone&&a.isNone&&x.cls==2&&y.cls==2)
def Mt(bs:List (List Nat)) (rl:List RI) (q:Nat) (ps:List (List Nat)) (pl:List (Option Nat)):Bool:=
 let ms:=qy bs
 (s? q).all λj=>match rl[j]? with
  |none=>a30
  |some y=>((pO pl j).isSome || y.pH)&&(s? j).all λi=>match rl[i]? with
   |none=>a30
   |some x=>(ms.getD j 0).testBit i || (!jx (pO pl i) (pO pl j) x y&&(!Hw (pO pl i) (pO pl j) x y || (ps.getD j []).contains i))
structure Y! (bs:List (List Nat)) (rl:List RI) (q:Nat) (ps:List (List Nat)) (pl:List (Option Nat)):Prop extends TailFacts bs rl q where
 pH:∀(j:Nat) y,j<q->rl[j]?=M y->((pO pl j).isSome || y.pH)=a29
 apart:∀(i j:Nat) x y,i<j->j<q->rl[i]?=M x->rl[j]?=M y->jx (pO pl i) (pO pl j) x y=a29->((qy bs).getD j 0).testBit i=a29
 pairs:∀(i j:Nat) x y,i<j->j<q->rl[i]?=M x->rl[j]?=M y->Hw (pO pl i) (pO pl j) x y=a29->((qy bs).getD j 0).testBit i=a29\/i∈ps.getD j []
variable {pl:List (Option Nat)}
theorem CL{bs:List (List Nat)}{rl:List RI}{q:Nat}{ps:List (List Nat)}(ht:TailFacts bs rl q) (h:Mt bs rl q ps pl=a29):Y! bs rl q ps pl:=by
 unfold Mt at h;simp only[Λ,Fah]at h;refine⟨ht,?_,?_,?_⟩
 all_goals grind
section
variable {P:a35} {ops:Array Oper} {Q:Exit->Act->a33->Prop} {K:St->Prop} {rl:List RI} {q:Nat} {ps:List (List Nat)} {pl:List (Option Nat)}
theorem CN{o a:Option Nat}{x y:RI}(hx:id∈LA o s x) (hy:wB a y=a29):Hw o a x y=a29:=by
 have h:lB o x=a29:=by
  cases o with
  |some p=>cases x<;>simp[lB]
  |none=>
   cases x with
   |call=>rfl
   |op d g i=>
    grind[LA,Nd,lB]
 grind[Hw]
theorem PU{o a:Option Nat}{x y:RI}:Hw o a x y=Hw a o y x:=by grind[Hw]
theorem Mn.wB{o:Option Nat}{r:RI}{s:St}{d:D}{x:List Ent}{p:Nat×Ent}(h:Mn P o r s d x (M p)):Go.Tm.wB o r=a29:=by
 cases o with
 |some p=>cases r<;>rfl
 |none=>
  cases r with
  |call=>obtain⟨_,h,_⟩:=h;cases h
  |op d g i=>
   rcases h with⟨_,⟨h,_⟩|⟨_,a,_,_,h,_⟩⟩|⟨_,_,_,h⟩
   all_goals grind[Go.Tm.wB]
theorem VU(hc:Ud P ops ops.toList=M rl) (hf:Y! (Ib ops) rl q ps pl) {os:Os}
 (H:∀i,i<q->Mn P (pO pl i) (rl.getD i pZ) (Ao rl os s0 (λ_=>a29) i) (ddC os i) (uL os i) (NZ os i))
 (hpl:∀i p,pO pl i=M p->p<s0.m.length)
 (B:∀i,i<q->uL os i≠[]->(rl.getD i pZ).cls=2/\pO pl i=u4)
 (hap:∀i j,i<j->j<q->i∈ps.getD j []->∀id,id∈LA (pO pl i) (Ao rl os s0 (λ_=>a29) i) (rl.getD i pZ)->id∉LA (pO pl j) (Ao rl os s0 (λ_=>a29) j) (rl.getD j pZ))
 (hT:Wf P (rl.drop q) K (Ao rl os s0 (λ_=>a29) q)) :
 ∀(fuel:Nat) (listed:Array Bool) (G:Gh) (w:a33) (a:Act),((s? ops.size).filter λj=>!Md listed j).length<=fuel->listed.size=ops.size->Closed (Ib ops) (Md listed)->
  (∀j,q<=j->Md listed j=a30)->p! G w a (Ao rl os s0 (Md listed) q)->(∀j,j<q->Md listed j=a29->∀id e,NZ os j=M (id,e)->id<(mS (uL os) (Md listed) s0.m q).length)->
  (∀s' G' w' a',K s'->p! G' w' a' s'->Step G w (Ao rl os s0 (Md listed) q).m G' w' s'.m->Q .normal a' w')->wpAny P .any ops Q fuel listed a w:=by
 obtain⟨X,V⟩:=Gw hc;simp only[vah]at X;have hq:=hf.hq;have d:∀{L L':Nat->Bool},(∀j,j<q->L j=L' j)->Ao rl os s0 L q=Ao rl os s0 L' q:=by
  intro L L' h;have hs:∀(m:List Ent) n,n<=q->sS (NZ os) L m n=sS (NZ os) L' m n:=by
   intro m n
   induction n with
   |zero=>intro _;rfl
   |succ n ih=>grind[sS]
  simp only[Ao,St.mk.injEq];exact⟨FK _ _ λj hj=>h j hj,by rw[RJ _ _ λj hj=>h j hj,hs _ _ (A' _)]⟩
 intro fuel
 induction fuel with
 |zero=>
  intro listed G w a o E F S I hV hQ;have o0:∀i,i<ops.size->Md listed i=a29:=by
   simp_all
  have hqn:q=ops.size:=by
   rcases Ο q ops.size with h|h
   all_goals grind
  have D:Ao rl os s0 (Md listed) q=Ao rl os s0 (λ_=>a29) q:=d λj hj=>o0 j U;refine cB hc hf.toTailFacts 0 q 0 listed _ G w a U (A' _) (A' _) U E (λi=>?_) hT p5 s5
  grind
 |succ fuel ih=>
  intro listed G w a o E F S I hV hQ;by_cases b:∀j,j<q->Md listed j=a29
  .have D:Ao rl os s0 (Md listed) q=Ao rl os s0 (λ_=>a29) q:=d λj hj=>b j hj;have g:∀i,Md listed i=D1 (i<q):=λi=>by
    grind
   have hcnt:=X! q ops.size;simp only[g]at o;exact cB hc hf.toTailFacts (ops.size-q) q (fuel+1) listed _ G w a rfl U (A' _) U E g hT p5 s5
  .refine⟨λhno=>(b λj hj=>uA hf.toTailFacts E hno j U).elim,λi hi=>?_⟩;obtain⟨h1,h2,h3,h4,T⟩:=Vw hf.toTailFacts E F hi;have c:i<q:=by
    rcases Ο i q with h|h
    .exact h
    .exact(b λj hj=>h3 j U (hf.tail j i U h U)).elim
   have z:∀j,j<q->rl[j]?=M (rl.getD j pZ):=λj hj=>getD_some U _;obtain⟨r,hr,hco⟩:=V i ops[i] p6;have hrr:rl.getD i pZ=r:=s5
   have early:∀j x,j<i->rl[j]?=M x->jx (pO pl j) (pO pl i) x r=a29->Md listed j=a29:=λj x hj hx u=>h3 j U (hf.apart j i x r hj c hx hr u);have late:∀j y,i<j->j<q->rl[j]?=M y->jx (pO pl i) (pO pl j) r y=a29->Md listed j=a30:=by
    intro j y hj O hy u;rcases hb:Md listed j with _|_
    .rfl
    .have:=Jv F hb (hf.apart i j r y hj O hr hy u)
     grind
   have hF:=H i c;rw[hrr]at hF;have v:∀(k l:Nat) (x y:RI),(x.cls=2/\pO pl k=u4)->(y.cls=2/\pO pl l=u4)->jx (pO pl k) (pO pl l) x y=a29:=λk l x y hx hy=>by grind[jx]
   have ordered:∀j,j<q->∀id e,NZ os j=M (id,e)->id∈LA (pO pl i) (Ao rl os s0 (λ_=>a29) i) r->(Md listed j=a29↔j<i):=by
    intro j hj id e hw hrid;have o4:=H j hj;have R:=o4.lt hw;have D:Go.Tm.wB (pO pl j) (rl.getD j pZ)=a29:=by rw[hw]at o4;exact o4.wB
    rcases Nat.lt_trichotomy j i with A|A|A
    .refine⟨λ_=>A,λ_=>?_⟩;have n6:Hw (pO pl j) (pO pl i) (rl.getD j pZ) r=a29:=by grind[PU,CN]
     rcases hf.pairs j i _ r A c (z j hj) hr n6 with h|h
     all_goals grind
    .grind
    .refine⟨λg=>?_,λh=>U⟩;have n6:Hw (pO pl i) (pO pl j) r (rl.getD j pZ)=a29:=CN hrid D;rcases hf.pairs i j r _ A hj hr (z j hj) n6 with h|h
     all_goals grind[Jv]
   refine at6 hco hF (s:=Ao rl os s0 (Md listed) q) ?_ ?_ ?_ ?_ I (Dag h1) ?_
   .intro y hy;refine jT s0.t U λj hj hd=>?_;have hxj:=z j hj
    grind[K2,jx]
   .intro hpo hcls;simp only[Ao,lp];refine congrArg List.length (gS s0.m (Nat.le_of_lt c) λj hj hx=>?_)
    grind
   .rintro id hrid ⟨e,he⟩ N;obtain⟨k,hk,Y⟩:=SF (xx:=uL os) (L:=Md listed) s0.m q λi1 j1 W hj hx1 hx2 hL1=>
     Jv F hL1 (hf.apart i1 j1 _ _ W hj (z i1 U) (z j1 hj) (v _ _ _ _ (B i1 U hx1) (B j1 hj hx2)))
    simp only[Ao,lp]at he N⊢;have R:id<(mS (uL os) (λ_=>a29) s0.m i).length:=by
     grind[lp]
    rw[zK _ _ _ N,zK _ _ _ R,HV U λj hj e hw=>ordered j hj id e hw hrid];have hbase:(mS (uL os) (Md listed) s0.m q)[id]?=(mS (uL os) (λ_=>a29) s0.m i)[id]?:=by
     rw[Y]at N⊢;rcases Xaj i k with h|h
     .obtain⟨rr,Z⟩:=RH (xx:=uL os) s0.m h
      grind
     .obtain⟨rr,Z⟩:=RH (xx:=uL os) s0.m h
      grind
    grind
   .grind[Ao,lp,aC0]
   .intro G' w' a' C hs' R;have f:mS (uL os) (Md (listed.setIfInBounds i a29)) s0.m q=mS (uL os) (Md listed) s0.m q++uL os i:=by
     refine LY s0.m h2 T c ?_
     grind
    have D:El (Ao rl os s0 (Md listed) q) r (ddC os i) (uL os i) (NZ os i)=Ao rl os s0 (Md (listed.setIfInBounds i a29)) q:=by
     rw[vI];simp only[Ao,St.mk.injEq];constructor
     .rw[yZ s0.t h2 T c ?_]
      all_goals grind[K2,jx]
     .rw[f,aj7 _ h2 T c ?_]
      .rw[vW _ _ _ λj hj g id e he=>hV j hj g id e he]
       cases hw:NZ os i with
       |none=>rfl
       |some p=>
        obtain⟨id,e⟩:=p;have:=(hF.lt hw).2.1
        grind[wr]
      .intro j W O g id e e' hwi hwj;have:=(ordered j O id e' hwj (hF.lt hwi).2.2).1 g;omega
    rw[D]at C;refine ih (listed.setIfInBounds i a29) G' w' a' ?_ s5 h4 ?_ C ?_ ?_
    .have:=Ζ h2 T (l:=s? ops.size) s5;omega
    .grind
    .intro j hj g id e he;rw[f,G!];rw[T,Cai,T!]at g;rcases g with g|rfl
     all_goals grind[Ao,lp]
    .intro s'' G'' w'' a'' k1 k2 k3;refine hQ s'' G'' w'' a'' k1 k2 (hs'.trans ?_)
     grind[vI]
end
def Nj(P:a35):List (Option Nat)->List (List Nat)->List (List Nat)->Nat->List RI->(St->Prop)->St->Prop
 |_,_,_,0,l,K,s=>Wf P l K s
 |_,_,_,_+1,[],_,_=>False
 |pl,ps,fp,q+1,.op dst g i::l,K,s=>
  match pl.headD u4 with
  |some p=>Mx fp [p] (ps.headD [])=a29/\g=u4/\∃d e,Bl s p i=M (d,e)/\Nj P pl.tail ps.tail (fp++[[p]]) q l K ({ s with m:=s.m.set p e }.put dst d)
  |none=>
   Mx fp (Nd s (.op dst g i)) (ps.headD [])=a29/\
   match d? s g with
   |none=>False
   |some u4=>∃d m',Mf s i=a29/\ba s i=M (d,m')/\Nj P pl.tail ps.tail (fp++[Nd s (.op dst g i)]) q l K ({ s with m:=m' }.put dst d)
   |some (M (c,b))=>(c=b->∃d m',Mf s i=a29/\ba s i=M (d,m')/\Nj P pl.tail ps.tail (fp++[Nd s (.op dst g i)]) q l K ({ s with m:=m' }.put dst d))/\(c≠b->Nj P pl.tail ps.tail (fp++[Nd s (.op dst g i)]) q l K (s.put dst (.v undef)))
 |pl,ps,fp,q+1,.call dst g f args::l,K,s=>
  match pl.headD u4,s.cv f with
  |some p,.fn k first caps=>g=u4/\p∈yb s args/\Mx fp (yb s args) (ps.headD [])=a29/\∃d e,((∀id∈yb s args,id<s.m.length)/\∀m,(∀id∈yb s args,m[id]?=s.m[id]?)->CallT P k (first++args.map s.ev++caps) m λd' m'=>d'=d/\m'=m.set p e)/\Nj P pl.tail ps.tail (fp++[yb s args]) q l K ({ s with m:=s.m.set p e }.put dst d)
  |none,.fn k first caps=>
   match d? s g with
   |none=>False
   |some u4=>Mx fp (yb s args) (ps.headD [])=a29/\∃d,((∀id∈yb s args,id<s.m.length)/\∀m,(∀id∈yb s args,m[id]?=s.m[id]?)->CallT P k (first++args.map s.ev++caps) m λd' m'=>d'=d/\m'=m)/\Nj P pl.tail ps.tail (fp++[yb s args]) q l K (s.put dst d)
   |some (M (c,b))=>Mx fp (yb s args) (ps.headD [])=a29/\(c=b->∃d,((∀id∈yb s args,id<s.m.length)/\∀m,(∀id∈yb s args,m[id]?=s.m[id]?)->CallT P k (first++args.map s.ev++caps) m λd' m'=>d'=d/\m'=m)/\Nj P pl.tail ps.tail (fp++[yb s args]) q l K (s.put dst d))/\(c≠b->Nj P pl.tail ps.tail (fp++[yb s args]) q l K (s.put dst (.v undef)))
  |none,_=>Mx fp (yb s args) (ps.headD [])=a29/\(∃c b,d? s g=M (M (c,b))/\c≠b)/\Nj P pl.tail ps.tail (fp++[yb s args]) q l K (s.put dst (.v undef))
  |_,_=>False
section
variable {P:a35} {K:St->Prop}
theorem eZ:pO pl.tail j=pO pl (j+1):=by grind[pO]
theorem ND:∀{q:Nat}{l:List RI}{s:St}{pl:List (Option Nat)}{ps:List (List Nat)}{fp:List (List Nat)},Nj P pl ps fp q l K s->(∀(j:Nat) y,j<q->l[j]?=M y->((pO pl j).isSome || y.pH)=a29)->
 ∃os rs s1,Nz P pl (l.take q) s os rs s1/\Wf P (l.drop q) K s1/\(∀j,j<q->∀i∈ps.getD j [],i<fp.length+j->Zq ((fp++rs).getD i []) (rs.getD j [])=a29)
 |0,l,s,pl,ps,fp,h,_=>⟨[],[],s,by simp[Nz],by simpa [Nj] using h,λj hj=>U⟩
 |q+1,[],s,pl,ps,fp,h,_=>by simp[Nj]at h
 |q+1,.op dst g i::l,s,pl,ps,fp,h,hc=>by
  have A:∀(j:Nat) y,j<q->l[j]?=M y->((pO pl.tail j).isSome || y.pH)=a29:=λj y hj O=>by grind[eZ]
  simp only[Nj]at h;have join:∀{s2:St} {d x w},Mx fp (LA (pl.headD u4) s (.op dst g i)) (ps.headD [])=a29->Mn P (pl.headD u4) (.op dst g i) s d x w->El s (.op dst g i) d x w=s2->Nj P pl.tail ps.tail (fp++[LA (pl.headD u4) s (.op dst g i)]) q l K s2->
   ∃os rs s1,Nz P pl ((RI.op dst g i::l).take (q+1)) s os rs s1/\Wf P ((RI.op dst g i::l).drop (q+1)) K s1/\(∀j,j<q+1->∀i∈ps.getD j [],i<fp.length+j->Zq ((fp++rs).getD i []) (rs.getD j [])=a29):=by
   intro s2 d x w n N hs r;obtain⟨os,rs,s1,H,h2,I⟩:=ND r A;refine⟨(d,x,w)::os,LA (pl.headD u4) s (.op dst g i)::rs,s1,by simp only[Χ,Nz];grind,p5,λj hj k hk G=>?_⟩
   cases j with
   |zero=>
    have E:k∈ps.headD []:=by cases ps with|nil=>simp at hk|cons a b=>simp_all
    have F:k<fp.length:=U
    have B:(fp++LA (pl.headD u4) s (.op dst g i)::rs).getD k []=fp.getD k []:=by
     grind
    grind[AH]
   |succ j=>
    grind[P?]
  split at h
  .rename_i p z;obtain⟨n,rfl,d,e,hf,r⟩:=h;exact join (d:=d) (x:=[]) (w:=M (p,e)) (by rw[z];exact n) (by rw[z];exact .inl ⟨dst,i,e,rfl,rfl,rfl,hf⟩) (show El s (.op dst u4 i) d [] (M (p,e))=({ s with m:=s.m.set p e }:St).put dst d by grind[El,wr,RI.dst]) (by rw[z];exact r)
  .rename_i z;have o4:(RI.op dst g i).pH=a29:=by
    have:=hc 0 _ U rfl;have h0:pO pl 0=u4:=by rw[←z];cases pl<;>rfl
    simp_all
   simp only[z,LA,Mn]at join;obtain⟨n,h⟩:=h;have on:∀{d:D} {m':List Ent},Mf s i=a29->ba s i=M (d,m')->(d? s g=M u4\/∃c,d? s g=M (M (c,c)))->Nj P pl.tail ps.tail (fp++[Nd s (.op dst g i)]) q l K ({ s with m:=m' }.put dst d)->
    ∃os rs s1,Nz P pl ((RI.op dst g i::l).take (q+1)) s os rs s1/\Wf P ((RI.op dst g i::l).drop (q+1)) K s1/\(∀j,j<q+1->∀i∈ps.getD j [],i<fp.length+j->Zq ((fp++rs).getD i []) (rs.getD j [])=a29):=by
    intro d m' C he u r;simp only[RI.pH,Cai,R2]at o4;by_cases L:i.cls<=2
    .have ext:∃x,m'=s.m++x:=by
      rcases Ο i.cls 2 with h2|h2
      .exact⟨[],by rw[R?];exact(Gq (s:=s) (s':=s) U (λ_ _=>rfl) (λ_ _ _ _=>rfl) he).1⟩
      .obtain⟨e,h,_⟩:=DG (s:=s) (s':=s) U (λ_ _=>rfl) rfl he
       simp_all
     obtain⟨x,rfl⟩:=ext;exact join n (x:=x) (w:=u4) (.inl ⟨u,.inl ⟨rfl,L,he⟩⟩) rfl r
    .have ht:i.X6.isSome=a29:=p5
     obtain⟨a,ha⟩:=Option.isSome_iff_exists.1 ht;obtain⟨id,e,H,rfl,I,h4⟩:=NM ha C he;refine join n (x:=[]) (w:=M (id,e)) (.inl ⟨u,.inr ⟨rfl,a,id,e,ha,H,rfl,he,?_,C⟩⟩) ?_ r
     all_goals grind[El,wr,RI.dst]
   have off:(∃c b,d? s g=M (M (c,b))/\c≠b)->Nj P pl.tail ps.tail (fp++[Nd s (.op dst g i)]) q l K (s.put dst (.v undef))->
    ∃os rs s1,Nz P pl ((RI.op dst g i::l).take (q+1)) s os rs s1/\Wf P ((RI.op dst g i::l).drop (q+1)) K s1/\(∀j,j<q+1->∀i∈ps.getD j [],i<fp.length+j->Zq ((fp++rs).getD i []) (rs.getD j [])=a29):=λu r=>
    join n (d:=.v undef) (x:=[]) (w:=u4) (.inr ⟨u,rfl,rfl,rfl⟩) (by simp_all[El,wr,RI.dst]) r
   split at h
   .simp_all
   .grind
   .rename_i c b u;by_cases t:c=b
    .subst t;obtain⟨d,m',C,he,r⟩:=h.1 rfl
     simp_all
    .exact off ⟨c,b,u,t⟩ (h.2 t)
 |q+1,.call dst g f args::l,s,pl,ps,fp,h,hc=>by
  have A:∀(j:Nat) y,j<q->l[j]?=M y->((pO pl.tail j).isSome || y.pH)=a29:=λj y hj O=>by grind[eZ]
  rcases z:pl.headD u4 with _|p
  rotate_left
  .simp only[Nj]at h
   cases hf:s.cv f with
   |fn k first caps=>
    simp only[z,hf]at h;obtain⟨rfl,n6,n,d,e,o,r⟩:=h;obtain⟨os,rs,s1,H,h2,I⟩:=ND r A;refine⟨(d,[],M (p,e))::os,yb s args::rs,s1,?_,p5,λj hj k hk G=>?_⟩
    .simp only[Χ,Nz,z];refine⟨d,[],M (p,e),os,rs,rfl,rfl,.inr ⟨dst,f,args,k,first,caps,e,rfl,rfl,rfl,hf,n6,o.1,o.2⟩,?_⟩
     grind[El,wr,RI.dst]
    .cases j with
     |zero=>
      have E:k∈ps.headD []:=by cases ps with|nil=>simp at hk|cons a b=>simp_all
      have F:k<fp.length:=U
      have B:(fp++yb s args::rs).getD k []=fp.getD k []:=by
       grind
      grind[AH]
     |succ j=>
      grind[P?]
   |_=>simp only[z,hf]at h
  have haf:∀d,El s (.call dst g f args) d [] u4=s.put dst d:=λd=>by simp_all[El,wr,RI.dst]
  have join:∀{d},Mx fp (yb s args) (ps.headD [])=a29->Gx P (.call dst g f args) s d [] u4->Nj P pl.tail ps.tail (fp++[yb s args]) q l K (s.put dst d)->
   ∃os rs s1,Nz P pl ((RI.call dst g f args::l).take (q+1)) s os rs s1/\Wf P ((RI.call dst g f args::l).drop (q+1)) K s1/\(∀j,j<q+1->∀i∈ps.getD j [],i<fp.length+j->Zq ((fp++rs).getD i []) (rs.getD j [])=a29):=by
   intro d n N r;obtain⟨os,rs,s1,H,h2,I⟩:=ND r A;refine⟨(d,[],u4)::os,yb s args::rs,s1,by simp only[Χ,Nz,z,LA,Nd,Mn];grind,p5,λj hj k hk G=>?_⟩
   cases j with
   |zero=>
    have E:k∈ps.headD []:=by cases ps with|nil=>simp at hk|cons a b=>simp_all
    have F:k<fp.length:=U
    have B:(fp++yb s args::rs).getD k []=fp.getD k []:=by
     grind
    grind[AH]
   |succ j=>
    grind[P?]
  simp only[Nj]at h
  cases hf:s.cv f with
  |fn k first caps=>
   simp only[z,hf]at h;split at h
   .simp_all
   .rename_i u;obtain⟨n,d,o,r⟩:=h;exact join n ⟨rfl,rfl,.inl ⟨k,first,caps,hf,.inl u,o⟩⟩ r
   .rename_i c b u;obtain⟨n,h⟩:=h;by_cases t:c=b
    .subst t;obtain⟨d,o,r⟩:=h.1 rfl;exact join n ⟨rfl,rfl,.inl ⟨k,first,caps,hf,.inr ⟨c,u⟩,o⟩⟩ r
    .exact join n ⟨rfl,rfl,.inr ⟨⟨c,b,u,t⟩,rfl⟩⟩ (h.2 t)
  |_=>
   simp only[z,hf]at h;obtain⟨n,⟨c,b,u,t⟩,r⟩:=h;exact join n ⟨rfl,rfl,.inr ⟨⟨c,b,u,t⟩,rfl⟩⟩ r
end
section
variable {P:a35} {N:Nat} {ops:Array Oper} {Q:Exit->Act->a33->Prop} {K:St->Prop} {rl:List RI} {q:Nat} {ps:List (List Nat)} {pl:List (Option Nat)}
theorem GC(Ie:P.follows .mixedOrders=a29) (hc:Ud P ops ops.toList=M rl) (hf:Y! (Ib ops) rl q ps pl) (B:Nj P pl ps [] q rl K s) (u:∀i p,pO pl i=M p->p<s.m.length)
 {G:Gh} {w:a33} (hr:p! G w a s) (hQ:∀s' G' w' a',K s'->p! G' w' a' s'->Step G w s.m G' w' s'.m->Q .normal a' w'):(Code.region id ops a29).wp P Q a w:=by
 obtain⟨os,rs,s1,x,C,hap⟩:=ND B hf.pH;have c:(rl.take q).length=q:=by rw[U'];have:=hf.hq;omega
 have e:=x.length;rw[c]at e;have A:Ao rl os s (λ_=>a29) 0=s:=rfl;obtain⟨g1,g2⟩:=Nz.get (pl:=pl) (rl:=rl) (os:=os) (s0:=s) (k:=0) (l:=rl.take q) (os':=os) (s':=s1) (rs:=rs) p6 p6 (λj hj=>U) (by rw[A];exact x);simp only[c,Z!]at g1 g2;subst g2;have r:∀j,Md (Wag ops.size a30) j=a30:=by
  intro j;unfold Md;simp only[Xah,Jai]
  grind
 have d:Ao rl os s (Md (Wag ops.size a30)) q=s:=by
  have ht:∀n,tS (K2 rl) (ddC os) (Md (Wag ops.size a30)) s.t n=s.t:=by
   intro n
   induction n with
   |zero=>rfl
   |succ n z=>simp_all[tS]
  have hm:∀n,mS (uL os) (Md (Wag ops.size a30)) s.m n=s.m:=by
   intro n
   induction n with
   |zero=>rfl
   |succ n z=>simp_all[mS]
  have hw:∀n,sS (NZ os) (Md (Wag ops.size a30)) s.m n=s.m:=by
   intro n
   induction n with
   |zero=>rfl
   |succ n z=>simp_all[sS]
  grind[Ao]
 refine wp_region_any Ie ?_;have v:=W?.drew w;refine VU hc hf (λi hi=>(g1 i hi).1) u ?_ ?_ C ops.size _ G _ a ?_ p6 ?_ (λj _=>r j) ?_ (λj _ h=>p5) ?_
 .intro i hi hx;have h:=(g1 i hi).1;rcases y:pO pl i with _|p
  .rw[y]at h;refine⟨?_,rfl⟩
   cases o:rl.getD i pZ with
   |call dst g f args=>
    rw[o]at h;obtain⟨h,_⟩:=h
    simp_all
   |op dst g j=>
    rw[o]at h;rcases h with⟨-,⟨_,hcl,h⟩|⟨h,_⟩⟩|⟨-,-,h,_⟩
    .simp only[RI.cls];rcases Ο j.cls 2 with h2|h2
     .obtain⟨hm,-⟩:=Gq (s:=Ao rl os s (λ_=>a29) i) (s':=Ao rl os s (λ_=>a29) i) U (λ_ _=>rfl) (λ_ _ _ _=>rfl) h
      simp_all
     omega
    all_goals simp_all
  .rw[y]at h;rcases h with⟨_,_,_,_,h,_⟩|⟨_,_,_,_,_,_,_,_,h,_⟩
   all_goals simp_all
 .grind[lM]
 .grind
 .intro i b _ hi
  simp_all
 .rw[d];exact⟨hr.t.mono (v.le G),v.inv hr.inv,hr.defers⟩
 .intro s' G' w' a' D E k3;rw[d]at k3;exact hQ s' G' w' a' D E ((v.step G s.m).trans k3)
def uB(m:List Ent) (pl:List (Option Nat)):Bool:=pl.all λo=>match o with|some p=>D1 (p<m.length)|none=>a29
theorem tac{m:List Ent}{pl:List (Option Nat)}(h:uB m pl=a29):∀i p,pO pl i=M p->p<m.length:=by
 intro i p a;unfold uB at h;rw[Λ]at h;unfold pO at a;have hm:M p∈pl:=by
  grind
 grind
theorem T.anyO(hm:P.follows .mixedOrders=a29) {bs:List (List Nat)}{K:Exit->St->Prop}(ps:List (List Nat)) (pl:List (Option Nat)) (d:Mt bs l q ps pl=a29) (e:uB s.m pl=a29) (h:Nj P pl ps [] q l (K .normal) s):T P N (.any cuts q bs l) K s:=by
 refine T.intro λcode c hc G w a hN hr=>?_;obtain⟨id,ops,rfl,rfl,b,f⟩:=U9 c hc;exact GC hm b (CL (vP f).1 d) h (tac e) hr λs' G' w' a' g i k3=>⟨s',G',g,i,k3.CZ hN⟩
theorem Jw{K:St->Prop}:∀{q:Nat}{l:List RI}{ps fp:List (List Nat)}{s:St},Az P ps fp q l K s->Nj P [] ps fp q l K s
 |0,l,ps,fp,s,h=>by simpa only[Nj,Az] using h
 |q+1,[],ps,fp,s,h=>by simp[Az]at h
 |q+1,.op dst g i::l,ps,fp,s,h=>by
  simp only[Nj,Az,Oaj,Vaj]at h⊢;refine⟨h.1,?_⟩;have h2:=h.2
  cases j:d? s g with
  |none=>simp_all
  |some o=>
   cases o with
   |none=>
    simp only[j]at h2⊢;obtain⟨d,m',a,h2,e⟩:=h2;exact⟨d,m',a,h2,Jw e⟩
   |some m=>
    obtain⟨c,b⟩:=m;simp only[j]at h2⊢;refine⟨λhc=>?_,λhc=>Jw (h2.2 hc)⟩;obtain⟨d,m',a,h2,e⟩:=h2.1 hc;exact⟨d,m',a,h2,Jw e⟩
 |q+1,.call dst g f args::l,ps,fp,s,h=>by
  simp only[Nj,Az,Oaj,Vaj]at h⊢
  cases hf:s.cv f with
  |fn k first caps=>
   simp only[hf]at h⊢
   cases j:d? s g with
   |none=>simp_all
   |some o=>
    cases o with
    |none=>
     simp only[j]at h⊢;obtain⟨n,d,a,e⟩:=h;exact⟨n,d,a,Jw e⟩
    |some m=>
     obtain⟨c,b⟩:=m;simp only[j]at h⊢;refine⟨h.1,λhc=>?_,λhc=>Jw (h.2.2 hc)⟩;obtain⟨d,a,e⟩:=h.2.1 hc;exact⟨d,a,Jw e⟩
  |_=>simp only[hf]at h
def T.any2(hm:P.follows .mixedOrders=a29) {bs:List (List Nat)}{K:Exit->St->Prop}(ps:List (List Nat)) (a:Mt bs l q ps []=a29) (h:Az P ps [] q l (K .normal) s):T P N (.any cuts q bs l) K s:=
 T.anyO hm ps [] a rfl (Jw h)
theorem T.drawO(hm:P.follows .mixedOrders=a29) {K:Exit->St->Prop}(h:Nj P [] [] [] q l (K .normal) s):T P N (.draw q l) K s:=by
 refine T.intro λcode n hc G w a hN hr=>?_;obtain⟨id,ops,rfl,f,o⟩:=AF n hc;have hf:=jv o;have b:∀i,pO [] i=u4:=λi=>rfl;have notgt:∀(j:Nat) d g i,j<q->l[j]?=M (.op d g i)->i.X6=u4:=by
  intro j d g i hj hl;have r:=hf.cls j _ hj hl
  cases ht:i.X6 with
  |none=>rfl
  |some x=>grind[RI.cls,dI]
 refine GC hm f (ps:=[]) (pl:=[]) ⟨hf.toTailFacts,?_,?_,?_⟩ h (λi p hp=>p5) hr λs' G' w' a' t u k3=>⟨s',G',t,u,k3.CZ hN⟩
 .intro j y hj e;have:=hf.cls j y hj e;rw[b]
  cases y with
  |call=>rfl
  |op d g i=>grind[RI.pH,RI.cls]
 .intro i j x y c hj hx e hcl;refine hf.apart i j x y c hj hx e ?_
  grind[jx,nC]
 .intro i j x y c hj hx e m;exfalso;rw[b,b]at m
  cases x with
  |call=>
   cases y with
   |call=>grind[Hw,wB]
   |op d g k=>grind[Hw,wB]
  |op d g k=>
   have r:=notgt i d g k U hx
   cases y with
   |call=>grind[Hw,wB]
   |op d' g' k'=>grind[Hw,wB]
theorem T.drawP(hm:P.follows .mixedOrders=a29) {K:Exit->St->Prop}(ps:List (List Nat)) (pl:List (Option Nat)) (hcl:∀i p,pO pl i=M p->∃a b c d,l[i]?=M (.call a b c d))
 (hps:∀j,j<q->∀i,i<j->i∈ps.getD j []) (o:uB s.m pl=a29) (h:Nj P pl ps [] q l (K .normal) s):T P N (.draw q l) K s:=by
 refine T.intro λcode k hc G w a hN hr=>?_;obtain⟨id,ops,rfl,e,n⟩:=AF k hc;have hf:=jv n;refine GC hm e (ps:=ps) (pl:=pl) ⟨hf.toTailFacts,?_,?_,?_⟩ h (tac o) hr λs' G' w' a' t u k3=>⟨s',G',t,u,k3.CZ hN⟩
 .intro j y hj r;have:=hf.cls j y hj r
  cases y with
  |call=>simp[RI.pH]
  |op d g i=>grind[RI.pH,RI.cls]
 .intro i j x y f hj hx r hcl';refine hf.apart i j x y f hj hx r ?_
  grind[jx,nC]
 simp_all
end
section
variable {P:a35} {N:Nat}
mutual
def Ad(n:Nat):D->D->Prop
 |.v x,.own i v=>x=.slice u4 0 0/\i=n/\v=0
 |.agg l,.agg r=>pk n l r
 |d,e=>d=e
def pk(n:Nat):List D->List D->Prop
 |[],r=>r=[]
 |d::l,r=>∃e a,r=e::a/\Ad n d e/\pk n l a
end
theorem Ad.inv{e:D}(h:Ad n d e):(d=.v (.slice u4 0 0)/\e=.own n 0)\/(∃l r,d=.agg l/\e=.agg r/\pk n l r)\/d=e:=by
 cases d<;>cases e<;>simp_all[Ad]
mutual
theorem Ad.rel{G:Gh}{w:a33}{n:Nat}(ho:VRel G w (.own n 0) (.slice u4 0 0)):∀{d e:D}{u:a32},Ad n d e->VRel G w d u->VRel G w e u
 |.agg l,e,u,b,h=>by
  rcases b.inv with⟨a,_⟩|⟨l',r,a,rfl,c⟩|rfl
  .grind
  .injection a with a;subst a;simp only[VRel]at h⊢;obtain⟨cs,rfl,h,a⟩:=h;exact⟨cs,rfl,pk.rel ho c h,a⟩
  omega
 |.v x,e,u,b,h=>by
  rcases b.inv with⟨a,rfl⟩|⟨_,_,a,_⟩|rfl
  .injection a with a;subst a;simp only[VRel]at h;simp_all
  all_goals simp_all
 |.tup l,e,u,b,h=>by rcases b.inv with⟨a,_⟩|⟨_,_,a,_⟩|rfl<;>first|cases a|exact h
 |.sl S l,e,u,b,h=>by rcases b.inv with⟨a,_⟩|⟨_,_,a,_⟩|rfl<;>first|cases a|exact h
 |.pt x,e,u,b,h=>by rcases b.inv with⟨a,_⟩|⟨_,_,a,_⟩|rfl<;>first|cases a|exact h
 |.ref _ _ _ _,e,u,b,h=>by rcases b.inv with⟨a,_⟩|⟨_,_,a,_⟩|rfl<;>first|cases a|exact h
 |.own _ _,e,u,b,h=>by rcases b.inv with⟨a,_⟩|⟨_,_,a,_⟩|rfl<;>first|cases a|exact h
 |.view _ _ _ _,e,u,b,h=>by rcases b.inv with⟨a,_⟩|⟨_,_,a,_⟩|rfl<;>first|cases a|exact h
 |.fn _ _ _,e,u,b,h=>by rcases b.inv with⟨a,_⟩|⟨_,_,a,_⟩|rfl<;>first|cases a|exact h
 |.mp _,e,u,b,h=>by rcases b.inv with⟨a,_⟩|⟨_,_,a,_⟩|rfl<;>first|cases a|exact h
 |.ifc _ _,e,u,b,h=>by rcases b.inv with⟨a,_⟩|⟨_,_,a,_⟩|rfl<;>first|cases a|exact h
 |a!,e,u,b,h=>by rcases b.inv with⟨a,_⟩|⟨_,_,a,_⟩|rfl<;>first|cases a|exact h
theorem pk.rel{G:Gh}{w:a33}{n:Nat}(ho:VRel G w (.own n 0) (.slice u4 0 0)):∀{l r:List D}{us:List a32},pk n l r->VsRel G w l us->VsRel G w r us
 |[],r,us,a,h=>by simp only[pk]at a;simp_all
 |d::l,r,us,a,h=>by
  simp only[pk]at a;obtain⟨e,r',rfl,c,h2⟩:=a;simp only[VsRel]at h⊢;obtain⟨u,b,rfl,g1,g2⟩:=h;exact⟨u,b,rfl,Ad.rel ho c g1,pk.rel ho h2 g2⟩
end
theorem pk.row{G:Gh}{w:a33}{n b S:Nat}(ho:VRel G w (.own n 0) (.slice u4 0 0)):∀{l r:List D}{off:Nat},pk n l r->Va G w b S l off->Va G w b S r off
 |[],r,off,a,h=>by simp only[pk]at a;subst a;exact h
 |d::l,r,off,a,h=>by
  simp only[pk]at a;obtain⟨e,r',rfl,c,h2⟩:=a;simp only[Va]at h⊢;obtain⟨⟨u,g1,g2,g3⟩,g4⟩:=h;exact⟨⟨u,Ad.rel ho c g1,g2,g3⟩,pk.row ho h2 g4⟩
theorem pk.length{n:Nat}:∀{l r:List D},pk n l r->l.length=r.length
 |[],r,h=>by simp[pk]at h;simp[h]
 |d::l,r,h=>by
  simp only[pk]at h;obtain⟨e,r',rfl,_,h2⟩:=h;simp[pk.length h2]
mutual
theorem Ad.refl(n:Nat):∀d:D,Ad n d d
 |.agg l=>by simp only[Ad];exact pk.refl n l
 |.v x=>by simp[Ad]
 |.tup l=>by simp[Ad]
 |.sl S l=>by simp[Ad]
 |.pt d=>by simp[Ad]
 |.ref ..=>by simp[Ad]
 |.own ..=>by simp[Ad]
 |.view ..=>by simp[Ad]
 |.fn ..=>by simp[Ad]
 |.mp ..=>by simp[Ad]
 |.ifc ..=>by simp[Ad]
 |a!=>by simp[Ad]
theorem pk.refl(n:Nat):∀l:List D,pk n l l
 |[]=>by simp[pk]
 |d::l=>by simp only[pk];exact⟨d,l,rfl,Ad.refl n d,pk.refl n l⟩
end
theorem pk.cons{e:D}{l r:List D}(h1:Ad n d e) (h2:pk n l r):pk n (d::l) (e::r):=by
 simp only[pk];grind
theorem Ad.nil(n:Nat):Ad n (.v (.slice u4 0 0)) (.own n 0):=by simp[Ad]
theorem Ad.agg{n:Nat}{l r:List D}(h:pk n l r):Ad n (.agg l) (.agg r):=by simp only[Ad];exact h
def tD(n:Nat):Ent->Ent->Prop
 |i? S v l,i? S' c l'=>S=S'/\v=c/\pk n l l'
 |.mp a,.mp b=>a.map (·.1)=b.map (·.1)/\pk n (a.map (·.2)) (b.map (·.2))
 |e,e'=>e=e'
def Kv(n:Nat):List Ent->List Ent->Prop
 |[],r=>r=[]
 |d::l,r=>∃e a,r=e::a/\tD n d e/\Kv n l a
theorem tD.refl(n:Nat) (e:Ent):tD n e e:=by cases e<;>simp[tD,pk.refl]
theorem Kv.refl(n:Nat):∀m:List Ent,Kv n m m
 |[]=>by simp[Kv]
 |d::l=>by simp only[Kv];exact⟨d,l,rfl,tD.refl n d,Kv.refl n l⟩
theorem Kv.cons{d:Ent}{l r:List Ent}(h1:tD n d e) (h2:Kv n l r):Kv n (d::l) (e::r):=by
 simp only[Kv];grind
theorem tD.live{n S v:Nat}{l r:List D}(h:pk n l r):tD n (i? S v l) (i? S v r):=by simp only[tD];simp_all
theorem Kv.get{n:Nat}:∀{m m':List Ent},Kv n m m'->m.length=m'.length/\∀(i:Nat) e,m'[i]?=M e->∃e0,m[i]?=M e0/\tD n e0 e
 |[],m',h=>by simp[Kv]at h;subst h;simp
 |d::m,m',h=>by
  simp only[Kv]at h;obtain⟨e,r',rfl,a,h2⟩:=h;obtain⟨b,c⟩:=Kv.get h2;refine⟨by simp[b],λi e' he=>?_⟩
  cases i with
  |zero=>simp at he;subst he;exact⟨d,rfl,a⟩
  |succ i=>simpa using c i e' (by simpa using he)
theorem Kv.append{n:Nat}:∀{m m':List Ent}(x:List Ent),Kv n m m'->Kv n (m++x) (m'++x)
 |[],m',x,h=>by simp[Kv]at h;subst h;exact Kv.refl n x
 |d::m,m',x,h=>by
  simp only[Kv]at h;obtain⟨e,r',rfl,a,h2⟩:=h;simp only[List.cons_append];exact Kv.cons a (Kv.append x h2)
theorem Lab{G:Gh}{w:a33}{n:Nat}(ho:VRel G w (.own n 0) (.slice u4 0 0)):∀{a b:List (a32×D)}{es:List MapEntry},a.map (·.1)=b.map (·.1)->pk n (a.map (·.2)) (b.map (·.2))->Od G w a es->Od G w b es
 |[],[],_,_,_,h=>h
 |(k,d)::a,(k',d')::b,es,hk,hd,h=>by
  obtain⟨e,r,c,f,h2,g⟩:=h;simp only[w?,Aag]at hk;simp only[w?,pk,Aag]at hd;obtain⟨x,r',⟨rfl,rfl⟩,g1,g2⟩:=hd;exact⟨e,r,c,by rw[f,hk.1],Ad.rel ho g1 h2,Lab ho hk.2 g2 g⟩
 |[],_::_,_,hk,_,_=>by simp at hk
 |_::_,[],_,hk,_,_=>by simp at hk
theorem tD.rel{G:Gh}{w:a33}{e':Ent}(ho:VRel G w (.own n 0) (.slice u4 0 0)) (h:tD n e e') (hr:Dl G w i e):Dl G w i e':=by
 cases e with
 |live S v l=>
  cases e' with
  |live S' v' l'=>
   simp only[tD]at h;obtain⟨rfl,rfl,h⟩:=h;obtain⟨a1,a2,a3,a4,a5⟩:=hr;rw[h.length]at a3 a4;refine⟨a1,a2,a3,a4,?_⟩;rcases a5 with a5|⟨g,cs,T,d,j,c,m,f⟩
   .exact .inl a5
   .exact .inr ⟨g,cs,T,d,j,c,m,pk.row ho h f⟩
  |_=>simp[tD]at h
 |mp a=>
  cases e' with
  |mp b=>
   simp only[tD]at h;obtain⟨a1,g,p,o,d,j,c,k⟩:=hr;exact⟨a1,g,p,o,d,j,c,Lab ho h.1 h.2 k⟩
  |_=>simp[tD]at h
 |gone=>simp only[tD]at h;subst h;exact hr
theorem tD.isLive{n:Nat}{e e':Ent}(h:tD n e e'):e'.isLive=e.isLive:=by
 cases e<;>cases e'<;>simp_all[tD,Ent.isLive]
theorem T.rI{c:C}(S:Nat) {t':List D}{m':List Ent}(ht:pk s.m.length s.t t') (hm:Kv s.m.length s.m m') (h:Tm.T P N c K ⟨t',m'++[i? S 0 []]⟩):Tm.T P N c K s:=by
 refine T.ghost (λG w a hN hr=>?_) h;have d:=Qz (w':=w) hr.inv u4 S 0 0 (i? S 0 []) rfl rfl rfl rfl (A' _) (λ_ _=>rfl) (λk h=>by cases h)
  ⟨by simp[Gh.add],by simp[Gh.add],by simp[Gh.add],p6,.inl ⟨by simp[Gh.add],by simp[Gh.add]⟩⟩
 have ho:=BA (s:=s) (b:=u4) (S:=S) (N:=0) (C:=0) (w':=w) hr.inv.n;have l:=(Kv.append [i? S 0 []] hm).get;have hi:=d.1;refine⟨_,⟨pk.rel ho ht (hr.t.mono d.2.le),⟨by rw[hi.n,l.1],hi.F,λi e he=>?_,λi j e e' he u hl hl' b hb r=>?_,hi.gl⟩,hr.defers⟩,?_⟩
 .obtain⟨e0,f,g⟩:=l.2 i e he;exact g.rel ho (hi.ent i e0 f)
 .obtain⟨e0,f,g⟩:=l.2 i e he;obtain⟨o,p,q⟩:=l.2 j e' u;exact hi.apart i j e0 o f p (by rw[←g.isLive];omega) (by rw[←q.isLive];omega) b hb r
 .refine { d.2.CZ hN with newB:=λb hb v=>d.2.newB b hb ?_ };obtain⟨i,e,he,hl,x⟩:=v;obtain⟨e0,f,g⟩:=l.2 i e he;exact⟨i,e0,f,by rw[←g.isLive];omega,x⟩
def T.addE{c:C}(S:Nat) (h:Tm.T P N c K ⟨s.t,s.m++[i? S 0 []]⟩):Tm.T P N c K s:=
 T.rI S (pk.refl _ _) (Kv.refl _ _) h
theorem T.addEs{c:C}{K:Exit->St->Prop}:∀(l:List Nat) {s:St},Tm.T P N c K ⟨s.t,s.m++l.map λS=>i? S 0 []⟩->Tm.T P N c K s
 |[],s,h=>p5
 |S::l,s,h=>T.addE S (T.addEs l p5)
end
def SN(S t:Nat) (s:St):St:=match s.t[t]? with|some (.v (.slice u4 0 0))=>⟨s.t.set t (.own s.m.length 0),s.m++[i? S 0 []]⟩|_=>s
theorem jQ{N:Nat}{c:C}{t:Nat}(h:Tm.T P N c K (SN S t s)):Tm.T P N c K s:=by
 grind[SN,T.Mv]
def sI(S id x:Nat) (s:St):St:=
 match s.m[id]? with
 |some (i? S' v l)=>
  match l[x]? with
  |some (.v (.slice u4 0 0))=>⟨s.t,s.m.set id (i? S' v (l.set x (.own s.m.length 0)))++[i? S 0 []]⟩
  |_=>s
 |_=>s
theorem pk.set{n:Nat}:∀{l:List D}{x:Nat},l[x]?=M (.v (.slice u4 0 0))->pk n l (l.set x (.own n 0))
 |[],x,h=>s5
 |d::l,0,h=>by grind[pk.cons,Ad.nil,pk.refl]
 |d::l,x+1,h=>pk.cons (Ad.refl n d) (pk.set p5)
theorem Kv.set{n S v:Nat}{l l':List D}(hl:pk n l l'):∀{m:List Ent}{id:Nat},m[id]?=M (i? S v l)->Kv n m (m.set id (i? S v l'))
 |[],id,h=>s5
 |e::m,0,h=>by grind[Kv.cons,tD.live,Kv.refl]
 |e::m,id+1,h=>Kv.cons (tD.refl n e) (Kv.set hl p5)
theorem V8{N:Nat}{c:C}{x:Nat}(h:Tm.T P N c K (sI S id x s)):Tm.T P N c K s:=by
 unfold sI at h;split at h
 .rename_i S' v l hm;split at h
  .rename_i hx;exact T.rI S (pk.refl _ _) (Kv.set (pk.set hx) hm) h
  omega
 omega
def dv(S id:Nat):Nat->St->St
 |0,s=>s
 |x+1,s=>sI S id x (dv S id x s)
def XA{P:a35}{N:Nat}{c:C}{K:Exit->St->Prop}{S id:Nat}:∀{x:Nat}{s:St},Tm.T P N c K (dv S id x s)->Tm.T P N c K s
 |0,s,h=>h
 |x+1,s,h=>XA (x:=x) (V8 h)
def Rz(S:Nat):Nat->St->St
 |0,s=>s
 |id+1,s=>
  match s.m[id]? with
  |some (i? 1 _ l)=>Rz S id (dv S id l.length s)
  |_=>Rz S id s
theorem FC{P:a35}{N:Nat}{c:C}{K:Exit->St->Prop}{S:Nat}:∀{id:Nat}{s:St},Tm.T P N c K (Rz S id s)->Tm.T P N c K s
 |0,s,h=>h
 |id+1,s,h=>by
  unfold Rz at h;split at h
  .exact XA (FC (id:=id) h)
  .exact FC (id:=id) h
def ZS(y:Nat):List RI->Nat
 |[]=>y
 |.op (M z) _ (.mv (.tmp t))::l=>bif zai z y then t else ZS y l
 |_::l=>ZS y l
def Yt(a:List RI):List RI->St->St
 |[],s=>s
 |.op _ _ (.trunc S (.tmp t) _ _)::l,s=>Yt a l (SN S (ZS t a) s)
 |.op _ _ (.append S _ (.tmp t) _)::l,s=>Yt a l (Rz S s.m.length (SN S (ZS t a) s))
 |_::l,s=>Yt a l s
theorem Fy{P:a35}{N:Nat}{c:C}{K:Exit->St->Prop}{d:List RI}:∀{l:List RI}{s:St},Tm.T P N c K (Yt d l s)->Tm.T P N c K s
 |[],s,h=>h
 |r::l,s,h=>by
  unfold Yt at h;split at h
  .omega
  .rename_i a;injection a with b h2;subst h2;exact jQ (Fy h)
  .rename_i a;injection a with b h2;subst h2;exact jQ (FC (Fy h))
  .rename_i a;injection a with b h2;subst h2;exact Fy h
def aW1(s:St) (t:Nat):St:=
 match s.t[t]? with
 |some (.own id Ca)=>
  match s.m[id]? with
  |some (i? S v l)=>bif zai v Ca then⟨pY id Ca S l s.t,(s.m.map (fzE id Ca S l)).set id .gone⟩else s
  |_=>s
 |_=>s
theorem aW0{c:C}{t:Nat}(h:∀N,Tm.T P N c K (aW1 s t)):∀N,Tm.T P N c K s:=by
 grind[aW1,Nat.eq_of_beq_eq_true,T.freeze]
def IH(a:List RI):List a34->St->St
 |[],s=>s
 |.tmp t::l,s=>IH a l (aW1 s (ZS t a))
 |_::l,s=>IH a l s
def jy{P:a35}{c:C}{K:Exit->St->Prop}{a:List RI}:∀{l:List a34}{s:St},(∀N,Tm.T P N c K (IH a l s))->∀N,Tm.T P N c K s
 |[],s,h=>h
 |.tmp t::l,s,h=>aW0 (jy (l:=l) h)
 |.const _::l,s,h=>jy (l:=l) h
 |.func _::l,s,h=>jy (l:=l) h
 |.global _::l,s,h=>jy (l:=l) h
def pA(FT:Nat->Option (S?×Nat)) (a:List RI):List RI->St->St
 |[],s=>s
 |.call _ _ (.func k) args::l,s=>
  match FT k with
  |some (_,2)=>pA FT a l s
  |_=>pA FT a l (IH a args s)
 |_::l,s=>pA FT a l s
theorem cE{P:a35}{c:C}{K:Exit->St->Prop}{FT:Nat->Option (S?×Nat)}{b:List RI}:∀{l:List RI}{s:St},(∀N,Tm.T P N c K (pA FT b l s))->∀N,Tm.T P N c K s
 |[],s,h=>h
 |r::l,s,h=>by
  unfold pA at h;split at h
  .omega
  .rename_i a;injection a with d h2;subst h2;split at h
   .exact cE h
   .exact jy (cE h)
  .rename_i a;injection a with d h2;subst h2;exact cE h
def bl4:RI->Option Nat
 |.op _ u4 (.alloc S _)=>M S
 |.op _ u4 (.box S _)=>M S
 |.op _ u4 (.bslice S _ _ _)=>M S
 |_=>u4
def bD5:RI->Bool
 |.op _ _ i=>zai i.cls 2
 |_=>a30
def v!:List RI->Nat->List (Option Nat)
 |[],_=>[]
 |r::l,n=>
  match bl4 r with
  |some _=>bif l.any bD5 then M n::v! l (n+1)else u4::v! l n
  |none=>u4::v! l n
def aD:List RI->List Nat
 |[]=>[]
 |r::l=>
  match bl4 r with
  |some S=>bif l.any bD5 then S::aD l else aD l
  |none=>aD l
def WV(bs:List (List Nat)) (q:Nat) (l:List RI) (pl:List (Option Nat)):List (List Nat):=
 let ms:=qy bs
 (s? q).map λj=>(s? j).filter λi=>!(ms.getD j 0).testBit i&&match l[i]?,l[j]? with|some x,M y=>Hw (pO pl i) (pO pl j) x y|_,_=>a30
def IV(m:List Ent) (ds:List D):Bool:=(Oe ds).all λid=>match m[id]? with|some (i? _ _ l)=>ea l|_=>a30
theorem dN{m:List Ent}{ds:List D}(h:IV m ds=a29) (hi:id∈Oe ds):∃S v l,m[id]?=M (i? S v l)/\ea l=a29:=by
 have:=Λ.1 h id hi
 grind
theorem Uy{m m':List Ent}:∀(k:Nat) (d:D),(∀id∈Gi d,m'[id]?=m[id]?/\∃S v l,m[id]?=M (i? S v l)/\ea l=a29)->ob k m' d=ob k m d
 |0,d,_=>rfl
 |k+1,d,h=>by
  have hl:∀l:List D,(∀id∈Oe l,m'[id]?=m[id]?/\∃S v l,m[id]?=M (i? S v l)/\ea l=a29)->l.map (ob k m')=l.map (ob k m):=by
   intro l
   induction l with
   |nil=>simp
   |cons x l i=>
    intro h;simp only[Oe,Ρ]at h;rw[w?,w?,Uy k x (λid hi=>h id (.inl hi)),i (λid hi=>h id (.inr hi))]
  cases d with
  |agg l=>simp only[ob];rw[hl l (by grind[Gi])]
  |tup l=>simp only[ob];rw[hl l (by grind[Gi])]
  |sl S l=>simp only[ob];rw[hl l (by grind[Gi])]
  |pt d=>simp only[ob];rw[Uy k d (by simpa only[Gi] using h)]
  |own id Ca=>
   grind[Gi,ob]
  |view id Ca lo n=>
   grind[Gi,ob]
  |ref id Ca x s=>
   obtain⟨c,S,v,l,h2,g⟩:=h id (by simp[Gi]);simp only[ob,c,h2];split
   .split
    .rename_i e he;rw[Uy k e (λj hj=>by rw[LH (Ch.1 g e (mag he))]at hj;cases hj)]
    .rfl
   .rfl
  |fn f a b=>
   simp only[Gi,Ρ]at h;simp only[ob];rw[hl a (λid hi=>h id (.inl hi)),hl b (λid hi=>h id (.inr hi))]
  |_=>rfl
theorem HG{m m':List Ent}(k:Nat):∀{ds:List D},(∀id∈Oe ds,m'[id]?=m[id]?/\∃S v l,m[id]?=M (i? S v l)/\ea l=a29)->ds.map (ob k m')=ds.map (ob k m)
 |[],_=>rfl
 |d::l,h=>by
  simp only[Oe,Ρ]at h;rw[w?,w?,Uy k d (λid hi=>h id (.inl hi)),HG k (λid hi=>h id (.inr hi))]
def ZR(m:List Ent) (d:D):Option D:=
 bif flat d then M d else
 match d with
 |.own id Ca=>
  match m[id]? with
  |some (i? S v l)=>bif zai v Ca&&qC l then M (.sl S l)else u4
  |_=>u4
 |_=>u4
theorem xQ{ds:List D}{m m1:List Ent}{d':D}(k:Nat) (hl:ZR m1 d=M d') (h:CallT P f (ds.map (ob k m)) [] λe m'=>e=d/\m'=m1):CallT P f ds m λe m'=>e=d'/\m'=m:=by
 unfold ZR at hl;cases hf:flat d
 .rw[hf]at hl;simp only[cond_false]at hl;split at hl
  .rename_i id Ca;split at hl
   .rename_i S v l hm;cases hb:(zai v Ca&&qC l)
    .simp_all
    .rw[hb]at hl;simp only[D?,Nat.beq_eq]at hb;obtain⟨rfl,hfl⟩:=hb;simp only[cond_true,M?]at hl;subst hl;refine(G9 (R:=λS' l'=>S'=S/\l'=l) k (h.mono ?_)).mono ?_
     all_goals grind
   simp_all
  simp_all
 .rw[hf]at hl;simp only[cond_true,M?]at hl;subst hl;refine(wQ (R:=λe=>e=d) k (h.mono ?_))
  simp_all
def KA(id Ca:Nat) (d:D):D:=
 match d with
 |.ref i v x s=>bif zai i id&&zai v Ca then .ref 0 0 x s else a!
 |d=>bif sa d then d else a!
theorem r6{G G':Gh}{w:a33}(a:Ν G w G' w) (hr:∀x s u,VRel G w (.ref id Ca x s) u->VRel G' w (.ref 0 0 x s) u) {u:a32}(h:VRel G w d u):VRel G' w (KA id Ca d) u:=by
 unfold KA;split
 .rename_i i v x s;cases hb:(zai i id&&zai v Ca)
  .simp[VRel]
  simp_all
 .cases hf:sa d
  .simp[VRel]
  .exact h.free a hf
section
variable {P:a35}
theorem AQ{l X:List D}{m m1:List Ent}{ds:List D}{d1:D}
 (t:m[id]?=M (i? S Ca l)) (hl:ea l=a29) (o4:m1[0]?=M (i? S 0 X))
 (h:CallT P k (ds.map (KA id Ca)) [i? S 0 l] λd m'=>d=d1/\m'=m1) :
 CallT P k ds m λd m'=>d=ob 8 (m1.set 0 .gone) d1/\m'=m.set id (i? S Ca (X.map (ob 8 (m1.set 0 .gone)))):=by
 refine⟨h.1,λG w vs hv hi=>?_⟩;have hlen:id<m.length:=(Τ.1 t).1;obtain⟨eV,eS,eN,eC,eB⟩:=hi.ent id _ t;have n6:Ν G w ⟨G.F,1,λ_=>G.B id,λ_=>0,λ_=>G.S id,λ_=>G.N id,λ_=>G.C id⟩ w:=⟨λ_ h=>h,λ_ _=>rfl⟩;have hv':=Io (G':=⟨G.F,1,λ_=>G.B id,λ_=>0,λ_=>G.S id,λ_=>G.N id,λ_=>G.C id⟩) (f:=KA id Ca) (λd u hu=>r6 n6 (λx s u hu=>by
  simp only[VRel]at hu⊢
  grind) hu) hv
 have hic:Inv ⟨G.F,1,λ_=>G.B id,λ_=>0,λ_=>G.S id,λ_=>G.N id,λ_=>G.C id⟩ w [i? S 0 l]:=by
  refine⟨rfl,hi.F,?_,?_,hi.gl.bare λ_ h=>h⟩
  .intro i e he
   cases i with
   |zero=>
    simp at he;subst he;refine⟨rfl,eS,eN,eC,?_⟩;rcases eB with h|⟨b,cs,T,p,h2,W,Z,h5⟩
    .simp_all
    .exact .inr ⟨b,cs,T,p,h2,W,Z,Va.free n6 rfl hl h5⟩
   |succ i=>simp at he
  grind
 have r:∀b,Oc ⟨G.F,1,λ_=>G.B id,λ_=>0,λ_=>G.S id,λ_=>G.N id,λ_=>G.C id⟩ [i? S 0 l] b->G.B id=M b:=by
  rintro b ⟨i,e,he,-,E⟩;omega
 refine(h.2 _ w vs hv' hic).mono ?_;rintro e w' ⟨v,d,m',G',rfl,⟨rfl,rfl⟩,hvd,g,a⟩;obtain⟨fV,fS,fN,fC,fB⟩:=g.ent 0 _ o4;have hlen1:0<m'.length:=(Τ.1 o4).1;have live1:(Ent.live S Ca l).isLive=a29:=rfl;obtain⟨sB,sS,sN,sC⟩:G'.B 0=G.B id/\G'.S 0=G.S id/\G'.N 0=G.N id/\G'.C 0=G.C id:=by
  rcases a.le.id 0 (Nat.lt_succ_self 0)with⟨_,p,h2,W,Z⟩|h
  all_goals simp_all
 have c:∀i x,(m'.set 0 .gone)[i]?=M x->(i=0/\x=.gone)\/(i≠0/\m'[i]?=M x):=by
  grind
 have O:Inv G' w' (m'.set 0 .gone):=by
  refine⟨by simpa using g.n,g.F,?_,?_,g.gl⟩
  .intro i x hx;rcases c i x hx with⟨rfl,rfl⟩|⟨L,hx⟩
   .trivial
   .exact g.ent i x hx
  .intro i j x y hx o0 A Y b hb I;rcases c i x hx with⟨rfl,rfl⟩|⟨L,hx⟩
   .cases A
   .rcases c j y o0 with⟨rfl,rfl⟩|⟨p,o0⟩
    .cases Y
    .exact g.apart i j x y hx o0 A Y b hb I
 have H:∀b,Oc G' (m'.set 0 .gone) b->Oc G' m' b/\G'.B 0≠M b:=by
  rintro b ⟨i,x,hx,A,E⟩;rcases c i x hx with⟨rfl,rfl⟩|⟨L,hx⟩
  .cases A
  .exact⟨⟨i,x,hx,A,E⟩,λh=>L (g.apart i 0 x _ hx o4 A rfl b E h)⟩
 have hF':∀b,(G'.F b\/Oc G' (m'.set 0 .gone) b)->b<w'.heap.size:=by
  rintro b (hb|hb)
  .exact g.F b hb
  .exact(Oc.lt O hb).1
 have R:∀d u,VRel G' w' d u->VRel ⟨λb=>G'.F b\/Oc G' (m'.set 0 .gone) b,G.n,G.B,G.V,G.S,G.N,G.C⟩ w' (ob 8 (m'.set 0 .gone) d) u:=by
  intro d u hu;have L:=nA O 8 d u hu;refine VRel.free ?_ (Hq _ _ _) L;exact⟨λ_ h=>h,λ_ _=>rfl⟩
 have Q:Le G w ⟨λb=>G'.F b\/Oc G' (m'.set 0 .gone) b,G.n,G.B,G.V,G.S,G.N,G.C⟩ w':=
  ⟨λb hb=>.inl (a.le.F b hb),λb hb=>a.le.heap b hb,A' _,λi _=>.inl p6⟩
 have K:∀i x,m[i]?=M x->x.isLive=a29->∀b,G.B i=M b->b<w.heap.size/\¬G.F b:=λi x hx hl b hb=>(hi.ent i x hx).lt hl hb;have notO:∀i x,m[i]?=M x->x.isLive=a29->i≠id->∀b,G.B i=M b->G.B id≠M b:=λi x hx o hne b hb E=>hne (hi.apart i id x _ hx t o live1 b hb E);have q:∀i x,(m.set id (i? S Ca (X.map (ob 8 (m'.set 0 .gone)))))[i]?=M x->(m[i]?=M x/\i≠id)\/(i=id/\x=i? S Ca (X.map (ob 8 (m'.set 0 .gone)))):=by
  grind
 refine⟨v,_,_,⟨λb=>G'.F b\/Oc G' (m'.set 0 .gone) b,G.n,G.B,G.V,G.S,G.N,G.C⟩,rfl,⟨rfl,rfl⟩,R _ _ hvd,⟨by simp[hi.n],hF',?_,?_,g.gl.bare λ_ h=>.inl h⟩,⟨Q,a.os,a.tape,a.output,a.size,?_,?_,?_⟩⟩
 .intro i x hx;rcases q i x hx with⟨p,h2⟩|⟨rfl,rfl⟩
  .by_cases o:x.isLive=a29
   .refine(hi.ent i x p).mono Q p6 (λb hb=>?_) (λb hb _ z=>?_)
    .exact a.keep b (K i x p o b hb).1 λho=>notO i x p o h2 b hb (r b ho)
    .rcases z with z|z
     .rcases a.newF b (K i x p o b hb).1 z with h|h
      all_goals grind
     .exact(notO i x p o h2 b hb (r b (a.newB b (K i x p o b hb).1 (H b z).1))).elim
   .cases x with
    |gone=>trivial
    |_=>grind[Ent.isLive]
  .refine⟨eV,eS,p5,p5,?_⟩
   grind[Oq]
 .intro i j x y hx o0 A Y b hb I;rcases q i x hx with⟨p,h2⟩|⟨rfl,rfl⟩<;>rcases q j y o0 with⟨W,Z⟩|⟨rfl,rfl⟩
  .exact hi.apart i j x y p W A Y b hb I
  all_goals grind
 .intro b hb hno;exact a.keep b hb λho=>hno ⟨id,_,t,live1,r b ho⟩
 .intro b hb z;rcases z with z|z
  .rcases a.newF b hb z with h|h
   all_goals grind
  .exact .inr ⟨id,_,t,live1,r b (a.newB b hb (H b z).1)⟩
 .rintro b hb ⟨i,x,hx,A,E⟩;rcases q i x hx with⟨p,h2⟩|⟨rfl,rfl⟩
  .exact⟨i,x,p,A,E⟩
  .exact⟨i,_,t,live1,E⟩
end
def Xaa(s:St) (id:Nat):St:=
 match s.m[id]? with
 |some (i? S v l)=>⟨pY id v S l s.t,(s.m.map (fzE id v S l)).set id .gone⟩
 |_=>s
theorem at4{c:C}(h:∀N,Tm.T P N c K (Xaa s id)):∀N,Tm.T P N c K s:=by
 grind[Xaa,T.freeze]
def Vy:Nat->List Nat->List Nat->St->St
 |0,_,_,s=>s
 |_+1,_,[],s=>s
 |n+1,keep,id::r,s=>
  match s.m[id]? with
  |some (i? _ _ l)=>
   bif keep.elem id then Vy n keep (Oe l++r) s
   else match Oe l with
    |[]=>Vy n keep r (Xaa s id)
    |a=>Vy n keep (a++id::r) s
  |_=>Vy n keep r s
theorem ky{P:a35}{c:C}{K:Exit->St->Prop}:∀{n:Nat}{keep ids:List Nat}{s:St},(∀N,Tm.T P N c K (Vy n keep ids s))->∀N,Tm.T P N c K s
 |0,_,_,s,h=>h
 |n+1,_,[],s,h=>h
 |n+1,keep,id::r,s,h=>by
  unfold Vy at h;split at h
  .cases hb:keep.elem id
   .rw[hb]at h;simp only[cond_false]at h;split at h
    .exact at4 (ky h)
    .exact ky h
   .rw[hb]at h;exact ky h
  .exact ky h
def NT(FT:Nat->Option (S?×Nat)) (s:St):RI->Option Nat
 |.call _ u4 (.func k) args=>
  match FT k with
  |some (_,0)=>args.findSome? λx=>match x with
   |.tmp t=>match s.t[t]? with
    |some (.ref id _ _ _)=>M id
    |_=>u4
   |_=>u4
  |_=>u4
 |_=>u4
def at3(FT:Nat->Option (S?×Nat)) (l:List RI) (s:St):St:=
 Vy 100 (l.filterMap (NT FT s)) (Oe ((l.flatMap RI.reads).map λt=>s.t.getD t a!)) s
def wpl(FT:Nat->Option (S?×Nat)) (l:List RI) (s:St):List (Option Nat):=l.map (NT FT s)
def au(q:Nat):List (List Nat):=(s? q).map s?
theorem pG{q:Nat}:∀j,j<q->∀i,i<j->i∈(au q).getD j []:=by
 grind[au]
theorem Dae{FT:Nat->Option (S?×Nat)}{q:Nat}:∀i p,pO (wpl FT (l.take q) s) i=M p->∃a b c d,l[i]?=M (.call a b c d):=by
 intro i p h;unfold pO wpl at h;rw[Aah,List.getElem?_map]at h
 cases hl:(l.take q)[i]? with
 |none=>simp_all
 |some r=>
  rw[hl]at h;have hl2:l[i]?=M r:=by
   grind
  cases r with
  |op d g j=>grind[NT]
  |call a b c d=>simp_all
end Go.Tm
