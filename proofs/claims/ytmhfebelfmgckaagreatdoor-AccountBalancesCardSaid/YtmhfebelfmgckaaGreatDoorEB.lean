/-
  The engine: a part of the proof that trees of values are carried along by the program: no condition.
-/
import Derived.Test.YtmhfebelfmgckaaGreatDoorEA
import Derived.Orders
open Go renaming Value->a41,World->a42,Operand->a43,Program->a44
open Option renaming some->M,none->s5
open Decidable renaming decide->s6
open Go.Tm.D renaming dead->d!
open Go.Tm.Ent renaming live->l!
open Array renaming getD_eq_getD_getElem?->ead,getElem?_eq_getElem->Oab,getElem?_replicate->bae,length_toList->Iac,range->gae,replicate->Zab
open Bool renaming and_eq_true->E!,or_eq_true->Kad,true->a38,false->a39
open List renaming all_eq_true->R',append_nil->X!,drop_eq_getElem_cons->lab,drop_eq_nil_of_le->Lac,getD_cons_succ->Η,getD_eq_getElem?_getD->Oac,getElem?_eq_getElem->n!,getElem?_eq_some_iff->dab,getElem?_set->eae,headD_nil->daf,length_append->Τ,length_take->Aac,map_cons->D?,mem_append->Z?,mem_cons->Z',mem_range->Eac,range->p!,replicate->k?,set_comm->iaf,size_toArray->Qab,tail_nil->jaf,take_succ_cons->uab
open List.cons renaming injEq->Pad
open Nat renaming beq->aaf,le_refl->x?,le_total->naf,le_trans->N?,lt_of_lt_of_le->Μ,lt_or_ge->Κ,strongRecOn->lad,zero_add->Y!
open Option renaming bind_eq_some_iff->hac,getD_some->κ,map_eq_some_iff->A'
open Option.some renaming injEq->T'
open Prod.mk renaming injEq->H!
set_option linter.all false
namespace Go.Tm
open Go.RowKit (Below)
variable {K:Exit->St->Prop}{s s' sc s0:St}{code:Code}{i b S j n id k p Va:Nat}{l:List RI}{cuts:List Nat}{d:D}{t:TypeId}{X:Type}{x y:a43}{F:Nat->Prop}{a:Act}{L:Nat->Bool}{e:Ent}{ops:Array Oper}{o:Oper}{r:RI}{listed:Array Bool}{os:List (D×List Ent)}{z:a41}
section
variable {P:a44}
structure y? (N:Nat) (G:Gh) (w:a42) (m:List Ent) (G':Gh) (w':a42) (m':List Ent):Prop where
 F:∀b,G.F b->G'.F b
 heap:∀b,G.F b->w'.heap[b]?=w.heap[b]?
 n:N<=G'.n
 id:∀i,i<N->(G'.V i=G.V i/\G'.B i=G.B i/\G'.S i=G.S i/\G'.N i=G.N i/\G'.C i=G.C i)\/G.V i<G'.V i
 os:w'.os=w.os
 tape:w'.tape=w.tape
 output:w'.output=w.output
 size:w.heap.size<=w'.heap.size
 keep:∀b,b<w.heap.size->¬Mg G m b->w'.heap[b]?=w.heap[b]?
 newF:∀b,b<w.heap.size->G'.F b->G.F b\/Mg G m b
 newB:∀b,b<w.heap.size->Mg G' m' b->Mg G m b
def Step.toN{N:Nat}{G G':Gh}{w w':a42}{m m':List Ent}(h:Step G w m G' w' m') (hN:N<=G.n):y? N G w m G' w' m':=
 ⟨h.le.F,h.le.heap,N? hN h.le.n,λi hi=>h.le.id i (Μ hi hN),h.os,h.tape,h.output,h.size,h.keep,h.newF,h.newB⟩
def y?.toStep{G G':Gh}{w w':a42}{m m':List Ent}(h:y? G.n G w m G' w' m'):Step G w m G' w' m':=
 ⟨⟨h.F,h.heap,h.n,h.id⟩,h.os,h.tape,h.output,h.size,h.keep,h.newF,h.newB⟩
theorem y?.refl{N:Nat}(G:Gh) (w:a42) (m:List Ent) (hN:N<=G.n):y? N G w m G w m:=(Step.refl G w m).toN hN
theorem y?.trans{N:Nat}{G G' c:Gh}{w w' e:a42}{m m' d:List Ent}(h:y? N G w m G' w' m') (k:y? N G' w' m' c e d):y? N G w m c e d where
 F b hb:=k.F b (h.F b hb)
 heap b hb:=(k.heap b (h.F b hb)).trans (h.heap b hb)
 n:=k.n
 id i hi:=by
  have h1:=h.id i hi;have h2:=k.id i hi
  grind
 os:=k.os.trans h.os
 tape:=k.tape.trans h.tape
 output:=k.output.trans h.output
 size:=N? h.size k.size
 keep b hb ho:=(k.keep b (Μ hb h.size) λa=>ho (h.newB b hb a)).trans (h.keep b hb ho)
 newF b hb f:=by
  rcases k.newF b (Μ hb h.size) f with a|a
  .exact h.newF b hb a
  .exact .inr (h.newB b hb a)
 newB b hb a:=h.newB b hb (k.newB b (Μ hb h.size) a)
def T(P:a44) (N:Nat) (c:C) (K:Exit->St->Prop) (s:St):Prop:=
 ∀code,k! P code=M c->∀(G:Gh) (w:a42) (a:Act),N<=G.n->o? G w a s->
  code.wp P (λe a' w'=>∃s' G',K e s'/\o? G' w' a' s'/\y? N G w s.m G' w' s'.m) a w
variable {N:Nat}
def T.mono{c:C}{K':Exit->St->Prop}(h:T P N c K s) (d:∀e s',K e s'->K' e s'):T P N c K' s:=
 λcode hc G w a hN hr=>Code.wp_mono (λ_ _ _ ⟨s',G',b,h2⟩=>⟨s',G',d _ _ b,h2⟩) (h code hc G w a hN hr)
theorem T.ghost{c:C}(j:∀(G:Gh) (w:a42) (a:Act),N<=G.n->o? G w a s->∃G',o? G' w a s'/\y? N G w s.m G' w s'.m) (h:T P N c K s'):T P N c K s:=by
 intro code hc G w a hN hr;obtain⟨G',e,b⟩:=j G w a hN hr;exact Code.wp_mono (λ_ _ _ ⟨f,d,g,h2,i⟩=>⟨f,d,g,h2,b.trans i⟩) (h code hc G' w a b.n e)
theorem D7(h:k! P code=M .skip):code=.skip\/∃l,code=.label l:=by
 cases code with
 |region id ops draw=>
  cases draw with
  |false=>simp[k!]at h
  |true=>grind[k!]
 |seq a b=>grind[k!]
 |cond c a b=>grind[k!]
 |skip=>simp
 |label l=>simp
 |_=>simp[k!]at h
theorem as6(h:k! P code=M .ret):code=.ret:=by
 cases code with
 |region id ops draw=>
  cases draw with
  |false=>simp[k!]at h
  |true=>grind[k!]
 |seq a b=>grind[k!]
 |cond c a b=>grind[k!]
 |ret=>rfl
 |_=>simp[k!]at h
theorem w7(h:k! P code=M (.exit i)):code=.exit i:=by
 cases code with
 |region id ops draw=>
  cases draw with
  |false=>simp[k!]at h
  |true=>grind[k!]
 |seq a b=>grind[k!]
 |cond c a b=>grind[k!]
 |exit j=>grind[k!]
 |_=>simp[k!]at h
theorem mV(h:k! P code=M (.eU l)):∃id ops,code=.region id ops a39/\Wi P ops ops.toList=M l:=by
 cases code with
 |region id ops draw=>
  cases draw with
  |true=>grind[k!]
  |false=>simp[k!]at h;grind
 |seq a b=>grind[k!]
 |cond c a b=>grind[k!]
 |_=>simp[k!]at h
theorem ZJ{q:Nat}(h:k! P code=M (.draw q l)):∃id ops,code=.region id ops a38/\Wi P ops ops.toList=M l/\dK (Pb ops) l q=a38:=by
 cases code with
 |region id ops draw=>
  cases draw with
  |false=>simp[k!]at h
  |true=>
   simp only[k!]at h
   grind
 |seq a b=>grind[k!]
 |cond c a b=>grind[k!]
 |_=>simp[k!]at h
theorem as7{q:Nat}{bs:List (List Nat)}(h:k! P code=M (.any cuts q bs l)):∃id ops,code=.region id ops a38/\bs=Pb ops/\Wi P ops ops.toList=M l/\qU (Pb ops) l cuts q=a38:=by
 cases code with
 |region id ops draw=>
  cases draw with
  |false=>simp[k!]at h
  |true=>
   simp only[k!]at h
   grind
 |seq a b=>grind[k!]
 |cond c a b=>grind[k!]
 |_=>simp[k!]at h
theorem as5{c d:C}(h:k! P code=M (.seq c d)):∃x y,code=.seq x y/\k! P x=M c/\k! P y=M d:=by
 cases code with
 |region id ops draw=>
  cases draw with
  |false=>simp[k!]at h
  |true=>grind[k!]
 |seq a b=>
  simp only[k!]at h
  grind
 |cond c a b=>grind[k!]
 |_=>simp[k!]at h
theorem v7{t:a43}{c d:C}(h:k! P code=M (.cond t c d)):∃x y,code=.cond t x y/\k! P x=M c/\k! P y=M d:=by
 cases code with
 |region id ops draw=>
  cases draw with
  |false=>simp[k!]at h
  |true=>grind[k!]
 |seq a b=>grind[k!]
 |cond t' a b=>
  grind[k!]
 |_=>simp[k!]at h
theorem IY{c:C}(h:k! P code=M (.block i c)):∃x,code=.block i x/\k! P x=M c:=by
 cases code with
 |region id ops draw=>
  cases draw with
  |false=>simp[k!]at h
  |true=>grind[k!]
 |seq a b=>grind[k!]
 |cond c a b=>grind[k!]
 |block j b=>simp_all[k!]
 |_=>simp[k!]at h
theorem B7{c:C}(h:k! P code=M (.loop c)):∃x,code=.loop x/\k! P x=M c:=by
 cases code with
 |region id ops draw=>
  cases draw with
  |false=>simp[k!]at h
  |true=>grind[k!]
 |seq a b=>grind[k!]
 |cond c a b=>grind[k!]
 |loop b=>simp[k!]at h;simp_all
 |_=>simp[k!]at h
theorem T.skip{K:Exit->St->Prop}{s:St}(h:K .normal s):T P N .skip K s:=by
 intro code hc G w a hN hr;rcases D7 hc with rfl|⟨l,rfl⟩
 all_goals grind[wp_skip,y?.refl,wp_label]
theorem T.ret{K:Exit->St->Prop}{s:St}(h:K .ret s):T P N .ret K s:=by
 intro code hc G w a hN hr;obtain rfl:=as6 hc
 grind[wp_ret,y?.refl]
theorem T.exit{id:Nat}{K:Exit->St->Prop}{s:St}(h:K (.exit id) s):T P N (.exit id) K s:=by
 intro code hc G w a hN hr;obtain rfl:=w7 hc
 grind[wp_exit,y?.refl]
theorem T.eU{l:List RI}{K:Exit->St->Prop}{s:St}(h:ln P l (K .normal) s):T P N (.eU l) K s:=by
 intro code hc G w a hN hr;obtain⟨id,ops,rfl,b⟩:=mV hc;exact wp_region_list (NH b h hr λs' G' w' a' c h2 d=>⟨s',G',c,h2,d.toN hN⟩)
theorem T.seq{c d:C}{K:Exit->St->Prop}{s:St}(h:T P N c (λe s'=>match e with|.normal=>T P N d K s'|e=>K e s') s):T P N (.seq c d) K s:=by
 intro code hc G w a hN hr;obtain⟨x,y,rfl,k,h2⟩:=as5 hc;refine wp_seq (Code.wp_mono ?_ (h x k G w a hN hr));rintro e a' w' ⟨s',G',j,f,b⟩
 cases e with
 |normal=>exact Code.wp_mono (λ_ _ _ ⟨i,g,l,m,k3⟩=>⟨i,g,l,m,b.trans k3⟩) (j y h2 G' w' a' b.n f)
 |_=>exact⟨s',G',j,f,b⟩
theorem T.cond{c:a43}{x y:C}{t:Bool}{K:Exit->St->Prop}{s:St}(ht:s.ev c=.v (.bool t)) (b:t=a38->T P N x K s) (h2:t=a39->T P N y K s):T P N (.cond c x y) K s:=by
 intro code hc G w a hN hr;obtain⟨d,f,rfl,e1,e2⟩:=v7 hc;have hv:=hr.ev c;rw[ht]at hv;simp only[VRel]at hv;exact wp_cond_split hv (λe=>b e d e1 G w a hN hr) (λe=>h2 e f e2 G w a hN hr)
theorem T.block{id:Nat}{x:C}{K:Exit->St->Prop}{s:St}(h:T P N x (λe s'=>match e with|.exit c=>if c=id then K .normal s' else K (.exit c) s'|e=>K e s') s):T P N (.block id x) K s:=by
 intro code hc G w a hN hr;obtain⟨b,rfl,hx⟩:=IY hc;refine wp_block (Code.wp_mono ?_ (h b hx G w a hN hr));rintro e a' w' ⟨s',G',g,d,f⟩
 cases e with
 |exit j=>
  simp only[Exit.inBlock]
  grind
 |_=>exact⟨s',G',g,d,f⟩
theorem X?{c:Code}{Q:Exit->Act->a42->Prop}(j9:X->Act->a42->Prop) (μ:X->Nat)
 (round:∀x a w,j9 x a w->c.wp P (Exit.then (λa' w'=>∃y,j9 y a' w'/\μ y<μ x) Q) a w):∀(x:X) (a:Act) (w:a42),j9 x a w->(Code.loop c).wp P Q a w:=by
 intro x₀ a₀ w₀ h₀ b k cs;have key:∀n (x:X) a w,μ x=n->j9 x a w->
  ∃e a' w',Q e a' w'/\Arrives P (lone (b.at a (.code c::.inLoop c::k)) cs w) b k cs e a' w':=by
  intro n
  induction n using lad with
  |_ n h=>
   intro x a w hn g;obtain⟨e,a₁,w₁,hq,d⟩:=round x a w g b (.inLoop c::k) cs
   cases e with
   |normal=>
    obtain⟨y,hI₁,f⟩:=hq;obtain⟨e₂,a₂,w₂,hq₂,harr₂⟩:=h (μ y) (hn▸f) y a₁ w₁ rfl hI₁;exact⟨e₂,a₂,w₂,hq₂,.of_steps (Steps.trans d (.one step_inLoop)) harr₂⟩
   |exit id=>exact⟨_,a₁,w₁,hq,.pass (x:=.inLoop c) rfl (λ_ _=>.inl o0) d⟩
   |goto l=>exact⟨_,a₁,w₁,hq,.pass (x:=.inLoop c) rfl (λ_ _=>.inl o0) d⟩
   |ret=>exact⟨_,a₁,w₁,hq,.pass (x:=.inLoop c) rfl (λ_ _=>.inl o0) d⟩
   |panic ch=>exact⟨_,a₁,w₁,hq,.pass (x:=.inLoop c) rfl (λ_ _=>.inl o0) d⟩
   |outgrown=>exact⟨_,a₁,w₁,hq,.pass (x:=.inLoop c) rfl (λ_ _=>.inl o0) d⟩
 obtain⟨e,a',w',hq,d⟩:=key _ x₀ a₀ w₀ rfl h₀;exact⟨e,a',w',hq,.of_steps (.one step_loop) d⟩
theorem T.loopI{x:C}(j9:X->St->Prop) (μ:X->Nat) (x₀:X) (j:j9 x₀ s)
 (round:∀y s,j9 y s->T P N x (λe s'=>match e with|.normal=>∃z,j9 z s'/\μ z<μ y|e=>K e s') s):T P N (.loop x) K s:=by
 intro code hc G w a hN hr;obtain⟨b,rfl,hx⟩:=B7 hc;refine X? (j9:=λ(y:X) a' w'=>∃s' G',j9 y s'/\o? G' w' a' s'/\y? N G w s.m G' w' s'.m) μ ?_ x₀ a w ⟨s,G,j,hr,y?.refl _ _ _ hN⟩;rintro y a1 o ⟨s1,i,l,g,c⟩;refine Code.wp_mono ?_ (round y s1 l b hx i o a1 c.n g);rintro e a' w' ⟨s',G',h,d,f⟩
 cases e with
 |normal=>obtain⟨z,k,h2⟩:=h;exact⟨z,⟨s',G',k,d,c.trans f⟩,h2⟩
 |_=>exact⟨s',G',h,d,c.trans f⟩
def SA(s:St):RV->Option D
 |.tmp t=>M (s.t.getD t d!)
 |.cell A n a=>
  match fa s (.load A n (.tmp a))with
  |some (d,_)=>M d
  |none=>s5
def Tb(s:St):List RV->Option (List D)
 |[]=>M []
 |r::l=>
  match SA s r,Tb s l with
  |some d,M ds=>M (d::ds)
  |_,_=>s5
def Vt:List D->D
 |[d]=>d
 |l=>.tup l
def fU(tmps:Array a41):ResultVar->Sem a41
 |.tmp t=>pure (tmps.getD t undef)
 |.cell a t=>do loadVar t (←asAddr (tmps.getD a undef))
theorem D0(fn:Func) (tmps:Array a41):results fn tmps=(do let vs←fn.results.mapM (fU tmps);pure (if h:vs.size=1 then vs[0]else .tuple vs)):=by
 unfold results;rfl
theorem jX:∀{l:List ResultVar}{rl:List RV}{s:St}{G:Gh}{w:a42}{a:Act}{ds:List D},sD P l=M rl->o? G w a s->Tb s rl=M ds->
 ∃us:List a41,(l.mapM (fU a.tmps)).run P w=.ok us w/\VsRel G w ds us
 |[],rl,s,G,w,a,ds,hc,hr,hd=>by
  simp only[sD]at hc;injection hc with hc;subst hc;simp only[Tb]at hd;injection hd with hd;subst hd;exact⟨[],o0,by simp[VsRel]⟩
 |r::l,rl,s,G,w,a,ds,hc,hr,hd=>by
  simp only[sD]at hc;split at hc
  .rename_i x y c h2;injection hc with hc;subst hc;simp only[Tb]at hd;split at hd
   .rename_i d ds' b f;injection hd with hd;subst hd;obtain⟨us,hrun,hv⟩:=jX h2 hr f
    cases r with
    |tmp t=>
     simp only[HY]at c;injection c with c;subst c;simp only[SA]at b;injection b with b;subst b;have hx:=hr.ev (.tmp t);simp only[St.ev,Act.eval]at hx;refine⟨a.tmps.getD t undef::us,?_,by simp only[VsRel];grind⟩
     grind[fU,Sem.run_bind,Sem.run_pure,Result.andThen_ok]
    |cell p t=>
     simp only[HY,A']at c;obtain⟨q,hq,rfl⟩:=c;simp only[SA]at b;split at b
     .rename_i e m0 he;injection b with b;subst b;obtain⟨ad,u,g,hrl,hvd,-⟩:=zO (P:=P) hr hq he;simp only[Act.eval]at g;refine⟨u::us,?_,by simp only[VsRel];grind⟩
      grind[fU,asAddr,Sem.run_bind,Sem.run_pure,Result.andThen_ok]
     simp_all
   simp_all
  simp_all
def kH(rs:List RV) (R:D->List Ent->Prop):Exit->St->Prop
 |.normal,s=>∃ds,Tb s rs=M ds/\R (Vt ds) s.m
 |.ret,s=>∃ds,Tb s rs=M ds/\R (Vt ds) s.m
 |_,_=>False
theorem ay5{G:Gh}{w:a42}{ds:List D}{us:List a41}(h:VsRel G w ds us):VRel G w (Vt ds) (if h:us.toArray.size=1 then us.toArray[0]else .tuple us.toArray):=by
 match ds,h with
 |[],h=>
  simp only[VsRel]at h;subst h;simp only[Qab,List.length_nil,Vt];rw[dif_neg p5];simp only[VRel,VsRel];simp
 |[d],h=>
  simp only[VsRel]at h;obtain⟨u,r,rfl,hv,rfl⟩:=h
  grind[Vt]
 |d::e::l,h=>
  have hl:=h.length;rw[dif_neg l5];simp only[Vt,VRel]
  simp_all
theorem SL{fn:Func}{F:Fun}{G:Gh}{w:a42}{ds:List D}(hc:sD P fn.results.toList=M F.results) (hr:o? G w a s) (hd:Tb s F.results=M ds) :
 ∃v,(results fn a.tmps).run P w=.ok v w/\VRel G w (Vt ds) v:=by
 obtain⟨us,hrun,hv⟩:=jX hc hr hd;refine⟨_,?_,ay5 hv⟩
 grind[D0,Array.mapM_eq_mapM_toList,Sem.run_bind,Sem.run_map,Result.andThen_ok,Sem.run_pure]
theorem vU(G:Gh) (w:a42):∀n,VsRel G w (k? n d!) (k? n undef)
 |0=>by simp[VsRel]
 |n+1=>by simp only[List.replicate_succ,VsRel];exact⟨_,_,rfl,I?,vU G w n⟩
theorem Tn{f:FuncId}{F:Fun}{ds:List D}{m:List Ent}{R:D->List Ent->Prop}(g:rC P f=M F) (hname:((P.funcs[f]?).map λfn=>fn.name == "runtime.NumGoroutine")=M a39)
 (h:T P m.length F.code (kH F.results R) ⟨ds++k? (F.ntmps-ds.length) d!,m⟩):CallT P f ds m R:=by
 unfold rC at g;split at g
 .rename_i fn i;split at g
  .rename_i b r hb k;simp only[A']at g;obtain⟨c,hc,rfl⟩:=g;refine⟨⟨fn,i,l5,l5⟩,λG w vs hv hi=>?_⟩;refine calls_of_wp i hb ?_;have j:=hv.length;have hr:o? G w { tmps:=vs.toArray++Zab (fn.ntmps-vs.toArray.size) undef,defers:=[] } ⟨ds++k? (fn.ntmps-ds.length) d!,m⟩:=by
    refine⟨?_,hi,rfl⟩;simp only[Array.toList_append,Array.toList_replicate,Qab,j];exact hv.append (vU _ _ _)
   refine Code.wp_mono ?_ (h b hc G w _ (by rw[hi.n];omega) hr);rintro e a' w' ⟨s',G',p,a,o⟩;have s:Step G w m G' w' s'.m:=by rw[←hi.n]at o;exact o.toStep
   have fin:(∃ds,Tb s' r=M ds/\R (Vt ds) s'.m)->a'.defers=[]/\∃v,(results fn a'.tmps).run P w'=.ok v w'/\∃v_1 d m' G',Ending.returned v=.returned v_1/\R d m'/\VRel G' w' d v_1/\Inv G' w' m'/\Step G w m G' w' m':=by
    rintro⟨es,q,u⟩;obtain⟨v,l,t⟩:=SL (F:=⟨fn.ntmps,r,c⟩) k a q;exact⟨a.defers,v,l,v,_,_,G',rfl,u,t,a.inv,s⟩
   cases e with
   |normal=>exact fin p
   |ret=>exact fin p
   |_=>exact p.elim
  simp_all
 simp_all
end
structure U' (G:Gh) (w:a42) (G':Gh) (w':a42):Prop where
 F:∀b,G.F b->G'.F b
 heap:∀b,G.F b->w'.heap[b]?=w.heap[b]?
mutual
theorem VRel.free{G G':Gh}{w w':a42}(c:U' G w G' w'):∀{d:D}{u:a41},xa d=a38->VRel G w d u->VRel G' w' d u
 |.v x,u,_,h=>by simpa [VRel] using h
 |.agg l,u,hf,h=>by
  simp only[VRel,xa]at h hf⊢;obtain⟨cs,rfl,h,g⟩:=h;exact⟨cs,rfl,VsRel.free c hf h,g⟩
 |.tup l,u,hf,h=>by
  simp only[VRel,xa]at h hf⊢;obtain⟨cs,rfl,h⟩:=h;exact⟨cs,rfl,VsRel.free c hf h⟩
 |.sl S l,u,hf,h=>by
  simp only[VRel,xa]at h hf⊢;obtain⟨a,n,cap,rfl,hn,hc,h⟩:=h;refine⟨a,n,cap,rfl,hn,hc,?_⟩;rcases h with h|⟨b,off,rfl,e,hr⟩
  .simp_all
  .exact .inr ⟨b,off,rfl,c.F b e,Xa.free c (c.heap b e) hf hr⟩
 |.pt d,u,hf,h=>by
  simp only[VRel,xa]at h hf⊢;obtain⟨b,off,x,rfl,e,hd,i⟩:=h;exact⟨b,off,x,rfl,c.F b e,VRel.free c hf hd,i.mono (c.heap b e)⟩
 |.fn f first caps,u,hf,h=>by
  simp only[VRel,xa,E!]at h hf⊢;obtain⟨fs,cs,rfl,g,h2⟩:=h;exact⟨fs,cs,rfl,VsRel.free c hf.1 g,VsRel.free c hf.2 h2⟩
 |.ifc t d,u,hf,h=>by
  simp only[VRel,xa]at h hf⊢;obtain⟨x,rfl,h⟩:=h;exact⟨x,rfl,VRel.free c hf h⟩
 |d!,u,_,h=>I?
 |.ref ..,_,hf,_=>by grind[xa]
 |.own ..,_,hf,_=>by grind[xa]
 |.view ..,_,hf,_=>by grind[xa]
 |.mp _,_,hf,_=>by grind[xa]
theorem VsRel.free{G G':Gh}{w w':a42}(a:U' G w G' w'):∀{l:List D}{us:List a41},oa l=a38->VsRel G w l us->VsRel G' w' l us
 |[],us,_,h=>by simpa [VsRel] using h
 |d::l,us,hf,h=>by
  simp only[VsRel,oa,E!]at h hf⊢;obtain⟨u,r,rfl,b,h2⟩:=h;exact⟨u,r,rfl,VRel.free a hf.1 b,VsRel.free a hf.2 h2⟩
theorem Xa.free{G G':Gh}{w w':a42}(a:U' G w G' w') {b S:Nat}(hb:w'.heap[b]?=w.heap[b]?) :
 ∀{l:List D} {off:Nat},oa l=a38->Xa G w b S l off->Xa G' w' b S l off
 |[],off,_,h=>by simp[Xa]
 |d::l,off,hf,h=>by
  simp only[Xa,oa,E!]at h hf⊢;obtain⟨⟨u,c,h2,e⟩,f⟩:=h;exact⟨⟨u,VRel.free a hf.1 c,h2,e.mono hb⟩,Xa.free a hb hf.2 f⟩
end
def Lg:Nat->List Ent->D->D
 |0,_,_=>d!
 |k+1,m,d=>
  match d with
  |.agg l=>.agg (l.map (Lg k m))
  |.tup l=>.tup (l.map (Lg k m))
  |.sl S l=>if oa l then d else .sl S (l.map (Lg k m))
  |.pt d=>.pt (Lg k m d)
  |.own id Va=>
   match m[id]? with
   |some (l! S c l)=>if c=Va then .sl S (if oa l then l else l.map (Lg k m))else d!
   |_=>d!
  |.view id Va lo n=>
   match m[id]? with
   |some (l! S c l)=>if c=Va/\lo+n<=l.length then .sl S (((if oa l then l else l.map (Lg k m)).drop lo).take n)else d!
   |_=>d!
  |.ref id Va x s=>
   match m[id]? with
   |some (l! _ c l)=>if c=Va/\s=0 then(match l[x]? with|some e=>.pt (Lg k m e)|none=>d!)else d!
   |_=>d!
  |.fn f a b=>.fn f (a.map (Lg k m)) (b.map (Lg k m))
  |.v x=>.v x
  |_=>d!
theorem AL{f:D->D}(h:∀d,xa (f d)=a38):∀l:List D,oa (l.map f)=a38
 |[]=>rfl
 |d::l=>by simp[oa,h d,AL h l]
theorem km:∀{l:List D},oa l=a38↔∀d∈l,xa d=a38
 |[]=>by simp[oa]
 |d::l=>by simp[oa,km (l:=l)]
theorem eG:∀(k:Nat) (m:List Ent) (d:D),xa (Lg k m d)=a38
 |0,m,d=>rfl
 |k+1,m,d=>by
  have ih:=AL (eG k m)
  cases d with
  |agg l=>grind[Lg,xa]
  |tup l=>grind[Lg,xa]
  |sl S l=>
   grind[Lg,xa]
  |pt d=>simpa [Lg,xa] using eG k m d
  |own id Va=>
   grind[Lg,xa]
  |view id Va lo n=>
   grind[Lg,xa,km]
  |ref id Va x s=>
   simp only[Lg];split
   .split
    .split
     .simpa [xa] using eG k m _
     .rfl
    .rfl
   .rfl
  |fn f a b=>grind[Lg,xa]
  |_=>rfl
def Gh.Lg(G:Gh) (m:List Ent):Gh:={ G with F:=λb=>G.F b\/Mg G m b }
def WE{G:Gh}{w:a42}{m:List Ent}:U' G w (G.Lg m) w:=⟨λ_ h=>.inl h,λ_ _=>rfl⟩
theorem Px{G:Gh}{w:a42}{G':Gh}{f:D->D}(h:∀d u,VRel G w d u->VRel G' w (f d) u):∀{l:List D}{us:List a41},VsRel G w l us->VsRel G' w (l.map f) us
 |[],us,hv=>by simpa [VsRel] using hv
 |d::l,us,hv=>by
  simp only[VsRel,D?]at hv⊢;obtain⟨u,r,rfl,a,h2⟩:=hv;exact⟨u,r,rfl,h d u a,Px h h2⟩
theorem Vy{G:Gh}{w:a42}{G':Gh}{f:D->D}(h:∀d u,VRel G w d u->VRel G' w (f d) u) {b S:Nat}:∀{l:List D}{off:Nat},Xa G w b S l off->Xa G' w b S (l.map f) off
 |[],off,hv=>by simp[Xa]
 |d::l,off,hv=>by
  simp only[Xa,D?]at hv⊢;obtain⟨⟨u,a,h2,c⟩,e⟩:=hv;exact⟨⟨u,h d u a,h2,c⟩,Vy h e⟩
theorem SV{G:Gh}{w:a42}{m:List Ent}(hi:Inv G w m):∀(k:Nat) (d:D) (u:a41),VRel G w d u->VRel (G.Lg m) w (Lg k m d) u
 |0,d,u,_=>by simp[Lg,VRel]
 |k+1,d,u,hv=>by
  have y:=SV hi k
  cases d with
  |v x=>simpa [Lg,VRel] using hv
  |agg l=>
   simp only[Lg,VRel]at hv⊢;obtain⟨cs,rfl,A,h2⟩:=hv;exact⟨cs,rfl,Px y A,h2⟩
  |tup l=>
   simp only[Lg,VRel]at hv⊢;obtain⟨cs,rfl,A⟩:=hv;exact⟨cs,rfl,Px y A⟩
  |sl S l=>
   simp only[Lg];split
   .rename_i hf;exact hv.free WE (by grind[xa])
   .simp only[VRel]at hv⊢;obtain⟨a,n,cap,rfl,hn,hc,h⟩:=hv;refine⟨a,n,cap,rfl,l5,hc,?_⟩;rcases h with h|⟨b,off,rfl,z,hr⟩
    .simp_all
    .exact .inr ⟨b,off,rfl,.inl z,Vy y hr⟩
  |pt d=>
   simp only[Lg,VRel]at hv⊢;obtain⟨b,off,x,rfl,z,hd,K⟩:=hv;exact⟨b,off,x,rfl,.inl z,y d x hd,K⟩
  |own id Va=>
   simp only[Lg];split
   .rename_i S r l hm;split
    .rename_i j;subst j;simp only[VRel]at hv⊢;obtain⟨p,n,c,rfl,B,q,hx⟩:=hv;obtain⟨a1,a2,a3,a4,a5⟩:=hi.ent _ _ hm;obtain⟨rfl,rfl,rfl⟩:=hx a1;have E:(if oa l=a38 then l else l.map (Lg k m)).length=l.length:=o4
     refine⟨_,_,_,rfl,U,U,?_⟩
     .rcases a5 with a5|⟨H,cs,T,g,z,o,F,i⟩
      .simp_all
      .refine .inr ⟨H,(G.C id).2,l5,.inr ⟨id,_,hm,rfl,g⟩,?_⟩;split
       .rename_i hf;exact i.free WE rfl hf
       grind[Vy]
    .simp[VRel]
   .simp[VRel]
  |view id Va lo n=>
   simp only[Lg];split
   .rename_i S r l hm;split
    .rename_i j;obtain⟨rfl,hle⟩:=j;simp only[VRel]at hv⊢;obtain⟨p,c,rfl,I,B,q,hx⟩:=hv;obtain⟨a1,a2,a3,a4,a5⟩:=hi.ent _ _ hm;have E:(if oa l=a38 then l else l.map (Lg k m)).length=l.length:=o4
     have t:(((if oa l=a38 then l else l.map (Lg k m)).drop lo).take n).length=n:=by
      grind
     refine⟨p,n,c,rfl,t.symm,I,?_⟩
     .rcases hx a1 with rfl|⟨b,hb,rfl⟩
      .simp
      .rcases a5 with a5|⟨H,cs,T,g,z,o,F,i⟩
       .simp_all
       .rw[hb]at g;injection g with g;subst g;refine .inr ⟨b,lo*S+(G.C id).2,by rw[a2],.inr ⟨id,_,hm,rfl,hb⟩,?_⟩;have:Xa (G.Lg m) w b S (if oa l=a38 then l else l.map (Lg k m)) (G.C id).2:=by
         split
         .rename_i hf;exact i.free WE rfl hf
         grind[Vy]
        grind[yA,xA]
    .simp[VRel]
   .simp[VRel]
  |ref id Va x s=>
   simp only[Lg];split
   .rename_i S r l hm;split
    .rename_i j;obtain⟨rfl,rfl⟩:=j;split
     .rename_i e he;simp only[VRel]at hv⊢;obtain⟨p,rfl,B,q,hx⟩:=hv;obtain⟨a1,a2,a3,a4,a5⟩:=hi.ent _ _ hm;obtain⟨b,hb,rfl⟩:=hx a1;rcases a5 with a5|⟨H,cs,T,g,z,o,F,i⟩
      .simp_all
      .rw[hb]at g;injection g with g;subst g;obtain⟨j9,g1,g2,g3⟩:=bg.1 i x e he;refine⟨b,_,j9,rfl,.inr ⟨id,_,hm,rfl,hb⟩,y e j9 g1,?_⟩
       grind
     .simp[VRel]
    .simp[VRel]
   .simp[VRel]
  |fn f a b=>
   simp only[Lg,VRel]at hv⊢;obtain⟨fs,cs,rfl,A,h2⟩:=hv;exact⟨fs,cs,rfl,Px y A,Px y h2⟩
  |_=>simp[Lg,VRel]
def Gh.bare(F:Nat->Prop):Gh:=⟨F,0,λ_=>s5,λ_=>0,λ_=>0,λ_=>0,λ_=>(0,0)⟩
theorem K8{g:Nat}(h:gtab g=M d):xa d=a38:=by
 unfold gtab at h;split at h
 .injection h with h;subst h;rfl
 .cases h
theorem GOK.bare{G G':Gh}{w:a42}(h:GOK G w) (a:∀b,G.F b->G'.F b):GOK G' w:=λg d hd=>
 VRel.free (G:=G) (G':=G') ⟨a,λ_ _=>rfl⟩ (d:=.pt d) (by grind[xa,K8]) (h g d hd)
theorem NI{w:a42}(h:∀b,F b->b<w.heap.size) (a:GOK (Gh.bare F) w):Inv (Gh.bare F) w []:=
 ⟨rfl,h,λi e he=>by simp at he,λi j e e' he=>o0,a⟩
theorem iG{G:Gh}:¬Mg G [] b:=λ⟨i,e,he,_⟩=>by simp at he
theorem kR{G G':Gh}{w w':a42}{m m':List Ent}(hi:Inv G w m) (d:Step (Gh.bare F) w [] G' w' m') (l:Inv G' w' m') (o:∀b,G.F b->F b) :
 (∀b,b<w.heap.size->w'.heap[b]?=w.heap[b]?)/\
 (Inv G w' m/\Step G w m G w' m)/\
 ((∀b,F b->G.F b)->Inv { G with F:=λb=>G'.F b\/Mg G' m' b } w' m/\Step G w m { G with F:=λb=>G'.F b\/Mg G' m' b } w' m):=by
 have a:∀b,b<w.heap.size->w'.heap[b]?=w.heap[b]?:=λb hb=>d.keep b hb iG;have f:∀i x,m[i]?=M x->x.isLive=a38->∀k,G.B i=M k->k<w.heap.size:=λi x hx hl k hk=>((hi.ent i x hx).lt hl hk).1;refine⟨a,?_,λj=>?_⟩
 .have c:Le G w G w':=⟨λ_ h=>h,λb hb=>a b (hi.F b hb),x? _,λ_ _=>.inl ⟨rfl,rfl,rfl,rfl,rfl⟩⟩;refine⟨⟨hi.n,λb hb=>Μ (hi.F b hb) d.size,λi e he=>?_,hi.apart,hi.gl.mono c⟩,⟨c,d.os,d.tape,d.output,d.size,λb hb _=>a b hb,λ_ _ h=>.inl h,λ_ _ h=>h⟩⟩;by_cases hl:e.isLive=a38
  .exact(hi.ent i e he).mono c ⟨rfl,rfl,rfl,rfl,rfl⟩ (λb hb=>a b (f i e he hl b hb)) (λ_ _ _ h=>h)
  .cases e with
   |gone=>trivial
   |_=>grind[Ent.isLive]
 .have c:Le G w { G with F:=λb=>G'.F b\/Mg G' m' b } w':=⟨λb h=>.inl (d.le.F b (o b h)),λb hb=>a b (hi.F b hb),x? _,λ_ _=>.inl ⟨rfl,rfl,rfl,rfl,rfl⟩⟩;have g:∀b,b<w.heap.size->(G'.F b\/Mg G' m' b)->G.F b:=by
   intro b hb h;rcases h with h|h
   .rcases d.newF b hb h with h|h
    .exact j b h
    grind[iG]
   .exact(iG (d.newB b hb h)).elim
  refine⟨⟨hi.n,?_,λi e he=>?_,hi.apart,hi.gl.mono c⟩,⟨c,d.os,d.tape,d.output,d.size,λb hb _=>a b hb,λb hb h=>.inl (g b hb h),λ_ _ h=>h⟩⟩
  .rintro b (h|h)
   .exact l.F b h
   grind[Mg.lt]
  .by_cases hl:e.isLive=a38
   .exact(hi.ent i e he).mono c ⟨rfl,rfl,rfl,rfl,rfl⟩ (λb hb=>a b (f i e he hl b hb)) (λb hb _ h=>g b (f i e he hl b hb) h)
   .cases e with
    |gone=>trivial
    |_=>grind[Ent.isLive]
mutual
def flat:D->Bool
 |.v _=>a38
 |.agg l=>CR l
 |.tup l=>CR l
 |d!=>a38
 |_=>a39
def CR:List D->Bool
 |[]=>a38
 |d::l=>flat d&&CR l
end
mutual
theorem VRel.flat{G G':Gh}{w w':a42}:∀{d:D}{u:a41},flat d=a38->VRel G w d u->VRel G' w' d u
 |.v x,u,_,h=>by simpa [VRel] using h
 |.agg l,u,hf,h=>by
  simp only[VRel,Tm.flat]at h hf⊢;obtain⟨cs,rfl,h,a⟩:=h;exact⟨cs,rfl,VsRel.flat hf h,a⟩
 |.tup l,u,hf,h=>by
  simp only[VRel,Tm.flat]at h hf⊢;obtain⟨cs,rfl,h⟩:=h;exact⟨cs,rfl,VsRel.flat hf h⟩
 |d!,u,_,h=>I?
 |.sl ..,_,hf,_=>by grind[Tm.flat]
 |.pt ..,_,hf,_=>by grind[Tm.flat]
 |.fn ..,_,hf,_=>by grind[Tm.flat]
 |.ref ..,_,hf,_=>by grind[Tm.flat]
 |.own ..,_,hf,_=>by grind[Tm.flat]
 |.view ..,_,hf,_=>by grind[Tm.flat]
 |.mp _,_,hf,_=>by grind[Tm.flat]
 |.ifc ..,_,hf,_=>by grind[Tm.flat]
theorem VsRel.flat{G G':Gh}{w w':a42}:∀{l:List D}{us:List a41},CR l=a38->VsRel G w l us->VsRel G' w' l us
 |[],us,_,h=>by simpa [VsRel] using h
 |d::l,us,hf,h=>by
  simp only[VsRel,CR,E!]at h hf⊢;obtain⟨u,r,rfl,a,h2⟩:=h;exact⟨u,r,rfl,VRel.flat hf.1 a,VsRel.flat hf.2 h2⟩
end
open Go.RowKit (Below)
mutual
def q':D->D->Prop
 |_,d!=>True
 |.v x,.sl _ l=>x=.slice s5 0 0/\l=[]
 |.agg l,.agg r=>ua l r
 |.tup l,.tup r=>ua l r
 |.sl S l,.sl S' r=>S=S'/\ua l r
 |d,e=>d=e
def ua:List D->List D->Prop
 |[],r=>r=[]
 |d::l,r=>∃e a,r=e::a/\q' d e/\ua l a
end
theorem ua.length:∀{l r:List D},ua l r->l.length=r.length
 |[],r,h=>by simp[ua]at h;simp[h]
 |d::l,r,h=>by
  simp only[ua]at h;obtain⟨e,r',rfl,_,h2⟩:=h;simp[ua.length h2]
mutual
theorem q'.rel{G:Gh}{w:a42}:∀{d e:D}{u:a41},q' d e->VRel G w d u->VRel G w e u
 |d,d!,u,_,_=>I?
 |.v x,.sl S l,u,f,h=>by
  simp only[q']at f;obtain⟨rfl,rfl⟩:=f;simp only[VRel]at h⊢
  grind
 |.agg l,.agg r,u,f,h=>by
  simp only[q']at f;simp only[VRel]at h⊢;obtain⟨cs,rfl,h,g⟩:=h;exact⟨cs,rfl,ua.rel f h,g⟩
 |.tup l,.tup r,u,f,h=>by
  simp only[q']at f;simp only[VRel]at h⊢;obtain⟨cs,rfl,h⟩:=h;exact⟨cs,rfl,ua.rel f h⟩
 |.sl S l,.sl S' r,u,f,h=>by
  simp only[q']at f;obtain⟨rfl,f⟩:=f;simp only[VRel]at h⊢;obtain⟨a,n,cap,rfl,hn,hc,h⟩:=h;refine⟨a,n,cap,rfl,by rw[←f.length];omega,hc,?_⟩;rcases h with rfl|⟨b,off,rfl,i,hr⟩
  .simp only[ua]at f;simp_all
  .exact .inr ⟨b,off,rfl,i,ua.row f hr⟩
 |.v x,.v y,u,f,h=>by simp only[q']at f;simp_all
 |.v x,.agg y,u,f,h=>by simp only[q']at f;grind
 |.v x,.tup y,u,f,h=>by simp only[q']at f;grind
 |.v x,.pt y,u,f,h=>by simp only[q']at f;grind
 |.v x,.ref ..,u,f,h=>by simp only[q']at f;grind
 |.v x,.own ..,u,f,h=>by simp only[q']at f;grind
 |.v x,.view ..,u,f,h=>by simp only[q']at f;grind
 |.v x,.fn ..,u,f,h=>by simp only[q']at f;grind
 |.v x,.mp ..,u,f,h=>by simp only[q']at f;grind
 |.v x,.ifc ..,u,f,h=>by simp only[q']at f;grind
 |.agg l,.v y,u,f,h=>by simp only[q']at f;grind
 |.agg l,.tup y,u,f,h=>by simp only[q']at f;grind
 |.agg l,.sl ..,u,f,h=>by simp only[q']at f;grind
 |.agg l,.pt y,u,f,h=>by simp only[q']at f;grind
 |.agg l,.ref ..,u,f,h=>by simp only[q']at f;grind
 |.agg l,.own ..,u,f,h=>by simp only[q']at f;grind
 |.agg l,.view ..,u,f,h=>by simp only[q']at f;grind
 |.agg l,.fn ..,u,f,h=>by simp only[q']at f;grind
 |.agg l,.mp ..,u,f,h=>by simp only[q']at f;grind
 |.agg l,.ifc ..,u,f,h=>by simp only[q']at f;grind
 |.tup l,.v y,u,f,h=>by simp only[q']at f;grind
 |.tup l,.agg y,u,f,h=>by simp only[q']at f;grind
 |.tup l,.sl ..,u,f,h=>by simp only[q']at f;grind
 |.tup l,.pt y,u,f,h=>by simp only[q']at f;grind
 |.tup l,.ref ..,u,f,h=>by simp only[q']at f;grind
 |.tup l,.own ..,u,f,h=>by simp only[q']at f;grind
 |.tup l,.view ..,u,f,h=>by simp only[q']at f;grind
 |.tup l,.fn ..,u,f,h=>by simp only[q']at f;grind
 |.tup l,.mp ..,u,f,h=>by simp only[q']at f;grind
 |.tup l,.ifc ..,u,f,h=>by simp only[q']at f;grind
 |.sl S l,.v y,u,f,h=>by simp only[q']at f;grind
 |.sl S l,.agg y,u,f,h=>by simp only[q']at f;grind
 |.sl S l,.tup ..,u,f,h=>by simp only[q']at f;grind
 |.sl S l,.pt y,u,f,h=>by simp only[q']at f;grind
 |.sl S l,.ref ..,u,f,h=>by simp only[q']at f;grind
 |.sl S l,.own ..,u,f,h=>by simp only[q']at f;grind
 |.sl S l,.view ..,u,f,h=>by simp only[q']at f;grind
 |.sl S l,.fn ..,u,f,h=>by simp only[q']at f;grind
 |.sl S l,.mp ..,u,f,h=>by simp only[q']at f;grind
 |.sl S l,.ifc ..,u,f,h=>by simp only[q']at f;grind
 |.pt x,e,u,f,h=>by cases e<;>simp only[q']at f<;>first|(simp[VRel];done)|(rw[←f];exact h)|cases f
 |.ref a b c d,e,u,f,h=>by cases e<;>simp only[q']at f<;>first|(simp[VRel];done)|(rw[←f];exact h)|cases f
 |.own a b,e,u,f,h=>by cases e<;>simp only[q']at f<;>first|(simp[VRel];done)|(rw[←f];exact h)|cases f
 |.view a b c d,e,u,f,h=>by cases e<;>simp only[q']at f<;>first|(simp[VRel];done)|(rw[←f];exact h)|cases f
 |.fn a b c,e,u,f,h=>by cases e<;>simp only[q']at f<;>first|(simp[VRel];done)|(rw[←f];exact h)|cases f
 |.mp a,e,u,f,h=>by cases e<;>simp only[q']at f<;>first|(simp[VRel];done)|(rw[←f];exact h)|cases f
 |.ifc a b,e,u,f,h=>by cases e<;>simp only[q']at f<;>first|(simp[VRel];done)|(rw[←f];exact h)|cases f
 |d!,e,u,f,h=>by cases e<;>simp only[q']at f<;>first|(simp[VRel];done)|(rw[←f];exact h)|cases f
theorem ua.rel{G:Gh}{w:a42}:∀{l r:List D}{us:List a41},ua l r->VsRel G w l us->VsRel G w r us
 |[],r,us,a,h=>by simp only[ua]at a;subst a;exact h
 |d::l,r,us,a,h=>by
  simp only[ua]at a;obtain⟨e,r',rfl,c,h2⟩:=a;simp only[VsRel]at h⊢;obtain⟨u,b,rfl,g1,g2⟩:=h;exact⟨u,b,rfl,q'.rel c g1,ua.rel h2 g2⟩
theorem ua.row{G:Gh}{w:a42}{b S:Nat}:∀{l r:List D}{off:Nat},ua l r->Xa G w b S l off->Xa G w b S r off
 |[],r,off,a,h=>by simp only[ua]at a;subst a;exact h
 |d::l,r,off,a,h=>by
  simp only[ua]at a;obtain⟨e,r',rfl,c,h2⟩:=a;simp only[Xa]at h⊢;obtain⟨⟨u,g1,g2,g3⟩,g4⟩:=h;exact⟨⟨u,q'.rel c g1,g2,g3⟩,ua.row h2 g4⟩
end
mutual
theorem q'.refl:∀d:D,q' d d
 |.v x=>by simp[q']
 |.agg l=>by simp only[q'];exact ua.Hb l
 |.tup l=>by simp only[q'];exact ua.Hb l
 |.sl S l=>by simp only[q',R1];exact ua.Hb l
 |.pt d=>by simp[q']
 |.ref ..=>by simp[q']
 |.own ..=>by simp[q']
 |.view ..=>by simp[q']
 |.fn ..=>by simp[q']
 |.mp ..=>by simp[q']
 |.ifc ..=>by simp[q']
 |d!=>by simp[q']
theorem ua.Hb:∀l:List D,ua l l
 |[]=>by simp[ua]
 |d::l=>by simp only[ua];exact⟨d,l,rfl,q'.refl d,ua.Hb l⟩
end
section
variable {P:a44} {N:Nat}
def T.sub{c:C}(t':List D) (a:ua s.t t') (h:T P N c K ⟨t',s.m⟩):T P N c K s:=
 T.ghost (s':=⟨t',s.m⟩) (λG w _ hN hr=>⟨G,⟨a.rel hr.t,hr.inv,hr.defers⟩,y?.refl _ _ _ hN⟩) h
theorem T.wE{c:C}(i S:Nat) (hi:s.t[i]?=M (.v (.slice s5 0 0))) (h:T P N c K ⟨s.t.set i (.own s.m.length 0),s.m++[l! S 0 []]⟩):T P N c K s:=by
 refine T.ghost (λG w a hN hr=>?_) h;have e:=vE (w':=w) hr.inv s5 S 0 0 (l! S 0 []) rfl rfl rfl rfl (x? _) (λ_ _=>rfl) (λk h=>by cases h)
  ⟨by simp[Gh.add],by simp[Gh.add],by simp[Gh.add],o0,.inl ⟨by simp[Gh.add],by simp[Gh.add]⟩⟩
 refine⟨_,⟨?_,e.1,hr.defers⟩,e.2.toN hN⟩;have hx:=VsRel.get i hr.t;rw[Oac,hi]at hx;simp only[κ,VRel]at hx;have hset:=VsRel.set (d:=.own s.m.length 0) (x:=.slice s5 0 0) (tF (s:=s) (b:=s5) (S:=S) (N:=0) (C:=0) (w':=w) hr.inv.n) i (hr.t.mono e.2.le);have hself:a.tmps.toList.set i (.slice s5 0 0)=a.tmps.toList:=by
  rw[←hx];apply List.ext_getElem?
  grind
 simp_all
mutual
def below(k:Nat):D->Bool
 |.agg l=>j? k l
 |.tup l=>j? k l
 |.sl _ l=>j? k l
 |.pt d=>below k d
 |.ref i _ _ _=>s6 (i<k)
 |.own i _=>s6 (i<k)
 |.view i _ _ _=>s6 (i<k)
 |.fn _ a b=>j? k a&&j? k b
 |.mp i=>s6 (i<k)
 |.ifc _ d=>below k d
 |_=>a38
def j?(k:Nat):List D->Bool
 |[]=>a38
 |d::l=>below k d&&j? k l
end
mutual
theorem Rc(k:Nat):∀d:D,xa d=a38->below k d=a38
 |.v _,_=>by simp[below]
 |.agg l,h=>by simp only[below];exact Ub k l (by grind[xa])
 |.tup l,h=>by simp only[below];exact Ub k l (by grind[xa])
 |.sl _ l,h=>by simp only[below];exact Ub k l (by grind[xa])
 |.pt d,h=>by simp only[below];exact Rc k d (by grind[xa])
 |.ifc _ d,h=>by simp only[below];exact Rc k d (by grind[xa])
 |.fn _ a b,h=>by
  simp only[xa,E!]at h;simp only[below,E!];exact⟨Ub k a h.1,Ub k b h.2⟩
 |d!,_=>by simp[below]
 |.ref ..,h=>by grind[xa]
 |.own ..,h=>by grind[xa]
 |.view ..,h=>by grind[xa]
 |.mp _,h=>by grind[xa]
theorem Ub(k:Nat):∀l:List D,oa l=a38->j? k l=a38
 |[],_=>by simp[j?]
 |d::l,h=>by
  simp only[oa,E!]at h;simp only[j?,E!];exact⟨Rc k d h.1,Ub k l h.2⟩
end
def Ent.below(k:Nat):Ent->Bool
 |l! _ _ l=>j? k l
 |.mp es=>es.all λe=>Tm.below k e.2
 |.gone=>a38
def Gh.trim(G:Gh) (k:Nat):Gh:={ G with n:=k }
mutual
theorem VRel.trim{G:Gh}{w:a42}{k:Nat}:∀{d:D}{u:a41},below k d=a38->VRel G w d u->VRel (G.trim k) w d u
 |.v x,u,_,h=>by simpa [VRel] using h
 |.agg l,u,hb,h=>by
  simp only[VRel,below]at h hb⊢;obtain⟨cs,rfl,h,e⟩:=h;exact⟨cs,rfl,VsRel.trim hb h,e⟩
 |.tup l,u,hb,h=>by
  simp only[VRel,below]at h hb⊢;obtain⟨cs,rfl,h⟩:=h;exact⟨cs,rfl,VsRel.trim hb h⟩
 |.sl S l,u,hb,h=>by
  simp only[VRel,below]at h hb⊢;obtain⟨a,n,cap,rfl,hn,hc,h⟩:=h;refine⟨a,n,cap,rfl,hn,hc,?_⟩;rcases h with h|⟨b,off,rfl,g,hr⟩
  .simp_all
  .exact .inr ⟨b,off,rfl,g,Xa.trim hb hr⟩
 |.pt d,u,hb,h=>by
  simp only[VRel,below]at h hb⊢;obtain⟨b,off,x,rfl,g,hd,i⟩:=h;exact⟨b,off,x,rfl,g,VRel.trim hb hd,i⟩
 |.ref ..,u,hb,h=>by
  simp only[VRel,below,w3]at h hb⊢;obtain⟨a,hu,_,h⟩:=h;exact⟨a,hu,hb,h⟩
 |.own ..,u,hb,h=>by
  simp only[VRel,below,w3]at h hb⊢;obtain⟨a,n,c,hu,_,h⟩:=h;exact⟨a,n,c,hu,hb,h⟩
 |.view ..,u,hb,h=>by
  simp only[VRel,below,w3]at h hb⊢;obtain⟨a,c,hu,hn,_,h⟩:=h;exact⟨a,c,hu,hn,hb,h⟩
 |.mp _,u,hb,h=>by
  simp only[VRel,below,w3]at h hb⊢;obtain⟨b,hu,_,h⟩:=h;exact⟨b,hu,hb,h⟩
 |.ifc t d,u,hb,h=>by
  simp only[VRel,below]at h hb⊢;obtain⟨x,rfl,h⟩:=h;exact⟨x,rfl,VRel.trim hb h⟩
 |.fn f first caps,u,hb,h=>by
  simp only[VRel,below,E!]at h hb⊢;obtain⟨fs,cs,rfl,e,h2⟩:=h;exact⟨fs,cs,rfl,VsRel.trim hb.1 e,VsRel.trim hb.2 h2⟩
 |d!,u,_,h=>I?
theorem VsRel.trim{G:Gh}{w:a42}{k:Nat}:∀{l:List D}{us:List a41},j? k l=a38->VsRel G w l us->VsRel (G.trim k) w l us
 |[],us,_,h=>by simpa [VsRel] using h
 |d::l,us,hb,h=>by
  simp only[VsRel,j?,E!]at h hb⊢;obtain⟨u,r,rfl,a,h2⟩:=h;exact⟨u,r,rfl,VRel.trim hb.1 a,VsRel.trim hb.2 h2⟩
theorem Xa.trim{G:Gh}{w:a42}{k b S:Nat}:∀{l:List D}{off:Nat},j? k l=a38->Xa G w b S l off->Xa (G.trim k) w b S l off
 |[],off,_,h=>by simp[Xa]
 |d::l,off,hb,h=>by
  simp only[Xa,j?,E!]at h hb⊢;obtain⟨⟨u,a,h2,c⟩,e⟩:=h;exact⟨⟨u,VRel.trim hb.1 a,h2,c⟩,Xa.trim hb.2 e⟩
end
theorem Oe.trim{G:Gh}{w:a42}{k:Nat}:∀{l:List (a41×D)}{es:List MapEntry},(l.all λe=>below k e.2)=a38->Oe G w l es->Oe (G.trim k) w l es
 |[],es,_,h=>h
 |(q,d)::l,es,hb,h=>by
  simp only[List.all_cons,E!]at hb;obtain⟨e,r,a,b,h2,c⟩:=h;exact⟨e,r,a,b,h2.trim hb.1,c.trim hb.2⟩
theorem T.trim{c:C}{K:Exit->St->Prop}{s:St}(k:Nat) (hN:N<=k) (hk:k<=s.m.length) (ht:j? k s.t=a38) (hm:(s.m.take k).all (Ent.below k)=a38) (h:T P N c K ⟨s.t,s.m.take k⟩):T P N c K s:=by
 refine T.ghost (λG w a hN' hr=>?_) h;have hi:=hr.inv;have d:∀(i:Nat) e,(s.m.take k)[i]?=M e->i<k/\s.m[i]?=M e:=by
  grind
 have o:Inv (G.trim k) w (s.m.take k):=by
  refine⟨by grind[Gh.trim],hi.F,λi e he=>?_,λi j e e' he q hl r b hb g=>hi.apart i j e e' (d i e he).2 (d j e' q).2 hl r b hb g,hi.gl.bare λ_ h=>h⟩;have hbe:e.below k=a38:=R'.1 hm e (List.mem_of_getElem? he);have f:=hi.ent i e (d i e he).2
  cases e with
  |live S Va l=>
   obtain⟨a1,a2,a3,a4,a5⟩:=f;refine⟨a1,a2,a3,a4,?_⟩;rcases a5 with a5|⟨v,cs,T,g,A,n,u,p⟩
   .exact .inl a5
   .exact .inr ⟨v,cs,T,g,A,n,u,p.trim (by grind[Ent.below])⟩
  |mp es=>
   obtain⟨a1,b,y,x,a2,a3,a4,a5⟩:=f;exact⟨a1,b,y,x,a2,a3,a4,a5.trim (by grind[Ent.below])⟩
  |gone=>trivial
 refine⟨G.trim k,⟨hr.t.trim ht,o,hr.defers⟩,⟨λ_ h=>h,λ_ _=>rfl,hN,λi hi'=>.inl ⟨rfl,rfl,rfl,rfl,rfl⟩,rfl,rfl,rfl,x? _,λ_ _ _=>rfl,λ_ _ h=>.inl h,?_⟩⟩;rintro b hb ⟨i,e,he,hl,z⟩;exact⟨i,e,(d i e he).2,hl,z⟩
theorem T.loopS{x:C}(S:X->St) (wx:X->Prop) (μ:X->Nat) (x₀:X) (f:wx x₀) (ht:ua s.t (S x₀).t) (hm:s.m=(S x₀).m)
 (hb:∀y,wx y->N<=(S y).m.length/\j? (S y).m.length (S y).t=a38/\(S y).m.all (Ent.below (S y).m.length)=a38)
 (round:∀y,wx y->T P N x (λe s'=>match e with|.normal=>∃z,wx z/\μ z<μ y/\ua s'.t (S z).t/\∃g,s'.m=(S z).m++g|e=>K e s') (S y)):T P N (.loop x) K s:=by
 refine T.loopI (j9:=λy s'=>wx y/\ua s'.t (S y).t/\∃g,s'.m=(S y).m++g) μ x₀ ⟨f,ht,[],o4⟩ ?_;rintro y s1 ⟨h,b,g,a⟩;obtain⟨c,d,b3⟩:=hb y h;refine T.sub (S y).t b ?_;refine T.trim (S y).m.length c (by simp[a]) d l5 ?_;have hst:(⟨(S y).t,s1.m.take (S y).m.length⟩:St)=S y:=by
  simp_all
 grind
end
open Go.RowKit (Below)
theorem Ca(h:∀t∈Hg x,s'.t.getD t d!=s.t.getD t d!):s'.ev x=s.ev x:=by
 cases x<;>simp[St.ev]
 simp_all[Hg]
theorem MN{f:ς}(h:∀t∈f.tmps,s'.t.getD t d!=s.t.getD t d!):s'.cv f=s.cv f:=by
 cases f with
 |tmp t=>exact Ca (x:=.tmp t) λt' h'=>h t' (by grind[ς.tmps,Hg])
 |_=>rfl
theorem jv{d:Nat}{x:Option a43}(h:∀t∈NL x,s'.t.getD t d!=s.t.getD t d!):bound s' d x=bound s d x:=by
 cases x with
 |none=>rfl
 |some y=>simp only[bound,Ca (s:=s) (s':=s') (x:=y) (λt ht=>h t ht)]
theorem nI{s s':St}:∀{ps:List (Nat×Nat×a43)}{l:List D},(∀t∈ps.flatMap (λp=>Hg p.2.2),s'.t.getD t d!=s.t.getD t d!)->az s' ps l=az s ps l
 |[],l,h=>rfl
 |(o,n,x)::ps,l,h=>by
  simp only[az,Ca (s:=s) (s':=s') (x:=x) (λt ht=>h t l5)];split
  .exact nI λt ht=>h t l5
  .rfl
theorem Rx{s s':St}{S:Nat}:∀{ps:List (Nat×a43)}{l:List D},(∀t∈ps.flatMap (λp=>Hg p.2),s'.t.getD t d!=s.t.getD t d!)->pd s' S ps l=pd s S ps l
 |[],l,h=>rfl
 |(o,x)::ps,l,h=>by
  simp only[pd,Ca (s:=s) (s':=s') (x:=x) (λt ht=>h t l5)];split
  .exact Rx λt ht=>h t l5
  .rfl
theorem F?{s s':St}:∀{l:List a43},(∀t∈l.flatMap Hg,s'.t.getD t d!=s.t.getD t d!)->l.map s'.ev=l.map s.ev
 |[],h=>rfl
 |x::l,h=>by
  simp only[D?,Ca (s:=s) (s':=s') (x:=x) (λt ht=>h t l5)];rw[F? λt ht=>h t l5]
theorem rO{g:Option (Tmp×Bool)}(h:∀t∈CT g,s'.t.getD t d!=s.t.getD t d!):j! s' g=j! s g:=by
 cases g with
 |none=>rfl
 |some p=>grind[j!,CT]
def df:D->Option Nat
 |.ref i _ _ _=>M i
 |.own i _=>M i
 |.view i _ _ _=>M i
 |.mp i=>M i
 |_=>s5
def I.at?:I->Option a43
 |.load _ _ x|.slice _ x _ _ _|.iaddr _ x _|.len x|.mlook _ _ _ x _|.mlen x|.xv _ x=>M x
 |_=>s5
theorem BO{m m':List Ent}(h:∀i,df d=M i->m'[i]?=m[i]?):Hd m' d=Hd m d:=by
 unfold Hd;split<;>first|rfl|(rename_i id Va;rw[h id rfl])|(rename_i id _ _ _;rw[h id rfl])
theorem vZ{m m':List Ent}{lo hi:Nat}(h:∀i,df d=M i->m'[i]?=m[i]?):nz S m' d lo hi=nz S m d lo hi:=by
 unfold nz;split<;>first|rfl|(rename_i id Va;rw[h id rfl])|(rename_i id Va l0 n;rw[h id rfl])
theorem qv{i:I}(hc:i.cls<=1) (ht:∀t∈i.reads,s'.t.getD t d!=s.t.getD t d!) (hm:∀x id,i.at?=M x->df (s.ev x)=M id->s'.m[id]?=s.m[id]?)
 {m1:List Ent} (he:fa s i=M (d,m1)):m1=s.m/\fa s' i=M (d,s'.m):=by
 cases i with
 |mv x=>
  grind[fa,I.reads,Ca]
 |pick c a b=>
  simp only[fa]at he⊢;rw[Ca (s:=s) (s':=s') (x:=c) (λt h=>ht t E?),Ca (s:=s) (s':=s') (x:=a) (λt h=>ht t E?),Ca (s:=s) (s':=s') (x:=b) (λt h=>ht t E?)];split at he
  all_goals simp_all
 |bin op x y=>
  simp only[fa]at he⊢;rw[Ca (s:=s) (s':=s') (x:=x) (λt h=>ht t E?),Ca (s:=s) (s':=s') (x:=y) (λt h=>ht t E?)];split at he
  all_goals first|(simp_all;done)|(simp only[A',H!]at he⊢;grind)|(simp_all;obtain⟨_,g,h2,j⟩:=he;exact⟨j.symm,_,g,h2⟩)
 |beq n x y=>
  simp only[fa]at he⊢;rw[Ca (s:=s) (s':=s') (x:=x) (λt h=>ht t E?),Ca (s:=s) (s':=s') (x:=y) (λt h=>ht t E?)];split at he
  all_goals simp_all
 |un op x=>
  simp only[fa]at he⊢;rw[Ca (s:=s) (s':=s') (x:=x) (λt h=>ht t E?)];split at he
  all_goals first|(simp_all;done)|(simp only[A',H!]at he⊢;grind)|(simp_all;obtain⟨_,g,h2,j⟩:=he;exact⟨j.symm,_,g,h2⟩)
 |conv k x=>
  simp only[fa]at he⊢;rw[Ca (s:=s) (s':=s') (x:=x) (λt h=>ht t E?)];split at he
  all_goals simp_all
 |build z ps=>
  simp only[fa]at he⊢;rw[nI (s:=s) (s':=s') (λt h=>ht t E?)]
  cases hb:az s ps z with
  |none=>simp_all
  |some l=>grind
 |mkifc t x=>
  grind[fa,I.reads,Ca]
 |tassert ok t z x=>
  simp only[fa]at he⊢;rw[Ca (s:=s) (s':=s') (x:=x) (λt h=>ht t E?)]
  repeat' split at he
  all_goals simp_all
 |capn x=>
  simp only[fa]at he⊢;rw[Ca (s:=s) (s':=s') (x:=x) (λt h=>ht t E?)]
  grind
 |xv neg x=>
  simp only[fa]at he⊢;rw[Ca (s:=s) (s':=s') (x:=x) (λt h=>ht t E?)];split at he
  .simp_all
  .simp_all
  .rename_i id Va hx;rw[hm x id rfl (by rw[hx];rfl)];split at he
   all_goals simp_all
  simp_all
 |clr S z x=>grind[I.cls]
 |mkapp S b z x n=>grind[I.cls]
 |nilc x=>
  simp only[fa]at he⊢;rw[Ca (s:=s) (s':=s') (x:=x) (λt h=>ht t E?)]
  grind
 |faddr A n o x=>
  simp only[fa]at he⊢;rw[Ca (s:=s) (s':=s') (x:=x) (λt h=>ht t E?)];split at he
  all_goals first|(simp_all;done)|(simp only[A',H!]at he⊢;grind)|(simp_all;obtain⟨_,g,h2,j⟩:=he;exact⟨j.symm,_,g,h2⟩)
 |field A n o x=>
  simp only[fa]at he⊢;rw[Ca (s:=s) (s':=s') (x:=x) (λt h=>ht t E?)];split at he
  all_goals first|(simp_all;done)|(simp only[A',H!]at he⊢;grind)|(simp_all;obtain⟨_,g,h2,j⟩:=he;exact⟨j.symm,_,g,h2⟩)
 |extract x k=>
  simp only[fa]at he⊢;rw[Ca (s:=s) (s':=s') (x:=x) (λt h=>ht t E?)];split at he
  all_goals first|(simp_all;done)|(simp only[A',H!]at he⊢;grind)|(simp_all;obtain⟨_,g,h2,j⟩:=he;exact⟨j.symm,_,g,h2⟩)
 |mkfunc f a b=>
  grind[fa,I.reads,F?]
 |aaddr A S n x y=>
  simp only[fa]at he⊢;rw[Ca (s:=s) (s':=s') (x:=x) (λt h=>ht t E?),Ca (s:=s) (s':=s') (x:=y) (λt h=>ht t E?)]
  repeat' split at he
  all_goals first|(simp_all;done)|(simp only[A',H!]at he⊢;obtain⟨_,g,rfl,rfl⟩:=he;exact⟨rfl,_,g,o0⟩)|(simp_all;grind)
 |index A S n x y=>
  simp only[fa]at he⊢;rw[Ca (s:=s) (s':=s') (x:=x) (λt h=>ht t E?),Ca (s:=s) (s':=s') (x:=y) (λt h=>ht t E?)];split at he
  .split at he
   .rename_i hk;rw[J hk];split at he
    .simp only[A',H!]at he⊢
     grind
    simp_all
   simp_all
  simp_all
 |slen x=>
  simp only[fa]at he⊢;rw[Ca (s:=s) (s':=s') (x:=x) (λt h=>ht t E?)];split at he
  all_goals simp_all
 |len x=>
  simp only[fa]at he⊢;rw[Ca (s:=s) (s':=s') (x:=x) (λt h=>ht t E?),BO (λid h=>hm x id rfl h)]
  cases hb:Hd s.m (s.ev x)with
  |none=>simp_all
  |some l=>grind
 |slice S x lo hi mx=>
  simp only[fa]at he⊢;rw[Ca (s:=s) (s':=s') (x:=x) (λt h=>ht t E?),BO (λid h=>hm x id rfl h)]
  cases hb:Hd s.m (s.ev x)with
  |none=>simp_all
  |some n=>
   simp only[hb]at he⊢;rw[jv (s:=s) (s':=s') (x:=lo) (λt h=>ht t E?),jv (s:=s) (s':=s') (x:=hi) (λt h=>ht t E?),jv (s:=s) (s':=s') (x:=mx) (λt h=>ht t E?)];split at he
   .rename_i l h k g h2 j;(try simp only);rw[vZ (λid h=>hm x id rfl h)];split at he
    .rename_i hc;rw[J hc]
     cases hs:nz S s.m (s.ev x) l h with
     |none=>simp_all
     |some r=>grind
    simp_all
   simp_all
 |iaddr S x y=>
  simp only[fa]at he⊢;rw[Ca (s:=s) (s':=s') (x:=x) (λt h=>ht t E?),Ca (s:=s) (s':=s') (x:=y) (λt h=>ht t E?)];split at he
  .split at he
   .rename_i k hk;rw[J hk];split at he
    .repeat' split at he
     all_goals first|(simp_all;done)|(simp only[A',H!]at he⊢;obtain⟨_,g,rfl,rfl⟩:=he;exact⟨rfl,_,g,o0⟩)|(simp_all;grind)
    .rename_i id Va hx;(try simp only);rw[hm x id rfl (by rw[hx];rfl)]
     repeat' split at he
     all_goals simp_all
    .rename_i id Va lo n hx;(try simp only);rw[hm x id rfl (by rw[hx];rfl)]
     repeat' split at he
     all_goals simp_all
    simp_all
   simp_all
  simp_all
 |load A n x=>
  simp only[fa]at he⊢;rw[Ca (s:=s) (s':=s') (x:=x) (λt h=>ht t E?)];split at he
  .repeat' split at he
   all_goals grind
  .rename_i id Va c! sub hx;(try simp only);rw[hm x id rfl (by rw[hx];rfl)];split at he
   .rename_i S ver' l hml;(try simp only);split at he
    .rename_i hv;rw[J hv];simp only[hac]at he⊢;obtain⟨e,hl,he⟩:=he;split at he
     .rename_i hok;simp only[A',H!]at he
      grind
     simp_all
    simp_all
   simp_all
  simp_all
 |alloc S z=>grind[I.cls]
 |box S x=>grind[I.cls]
 |bslice S n z ps=>grind[I.cls]
 |mkslice S b z l c=>grind[I.cls]
 |store n x y=>grind[I.cls]
 |append S b x y=>grind[I.cls]
 |fail=>grind[fa]
 |mm b xs=>
  simp only[fa]at he⊢;rw[F? (s:=s) (s':=s') (l:=xs) (λt h=>ht t E?)];split at he
  all_goals first|(simp_all;done)|(simp only[A',H!]at he⊢;grind)|(simp_all;obtain⟨_,g,h2,j⟩:=he;exact⟨j.symm,_,g,h2⟩)
 |ceq n ks x y=>
  simp only[fa]at he⊢;rw[Ca (s:=s) (s':=s') (x:=x) (λt h=>ht t E?),Ca (s:=s) (s':=s') (x:=y) (λt h=>ht t E?)];split at he
  all_goals first|(simp_all;done)|(simp only[A',H!]at he⊢;grind)|(simp_all;obtain⟨_,g,h2,j⟩:=he;exact⟨j.symm,_,g,h2⟩)
 |strb S x=>grind[I.cls]
 |trunc S x lo hi=>grind[I.cls]
 |CA x y=>
  simp only[fa]at he⊢;rw[Ca (s:=s) (s':=s') (x:=x) (λt h=>ht t E?),Ca (s:=s) (s':=s') (x:=y) (λt h=>ht t E?)];split at he
  all_goals simp_all
 |sslice x lo hi=>
  simp only[fa]at he⊢;rw[Ca (s:=s) (s':=s') (x:=x) (λt h=>ht t E?)];split at he
  all_goals grind[I.reads,jv]
 |mkmap=>grind[I.cls]
 |mput K m k x=>grind[I.cls]
 |mlook K ok z x k=>
  simp only[fa]at he⊢;rw[Ca (s:=s) (s':=s') (x:=x) (λt h=>ht t E?),Ca (s:=s) (s':=s') (x:=k) (λt h=>ht t E?)];split at he
  .split at he
   .rename_i hk;rw[J hk];split at he
    .grind
    .rename_i id hx;(try simp only);rw[hm x id rfl (by rw[hx];rfl)];split at he
     all_goals grind
    simp_all
   simp_all
  simp_all
 |mlen x=>
  simp only[fa]at he⊢;rw[Ca (s:=s) (s':=s') (x:=x) (λt h=>ht t E?)];split at he
  .grind
  .rename_i id hx;(try simp only);rw[hm x id rfl (by rw[hx];rfl)];split at he
   all_goals simp_all
  simp_all
theorem kO{i:I}(hc:i.cls=2) (ht:∀t∈i.reads,s'.t.getD t d!=s.t.getD t d!) (hm:s'.m=s.m) {m1:List Ent}(he:fa s i=M (d,m1)):fa s' i=M (d,m1)/\∃e,m1=s.m++[e]:=by
 cases i with
 |alloc S z=>grind[fa]
 |box S x=>
  simp only[fa]at he⊢;rw[Ca (s:=s) (s':=s') (x:=x) (λt h=>ht t E?),hm]
  grind
 |bslice S n z ps=>
  grind[fa,I.reads,Rx,A']
 |mkslice S b z l c=>
  grind[fa,I.reads,Ca]
 |mkmap=>
  grind[fa]
 |_=>simp[I.cls]at hc
def Closed(bs:List (List Nat)) (L:Nat->Bool):Prop:=∀i b,bs[i]?=M b->L i=a38->∀e∈b,L e=a38
theorem EO(acc:List Nat) {L:Nat->Bool}(a:∀e,L e=a38->∀j,(acc.getD e 0).testBit j=a38->L j=a38) :
 ∀(b:List Nat) (s:Nat),(∀e∈b,L e=a38)->(∀j,s.testBit j=a38->L j=a38)->∀j,(b.foldl (λs e=>s ||| 2 ^ e ||| acc.getD e 0) s).testBit j=a38->L j=a38
 |[],s,_,c,j,h=>c j h
 |e::b,s,hb,c,j,h=>by
  simp only[List.foldl_cons]at h;refine EO acc a b _ (λx hx=>hb x o4) (λk hk=>?_) j h
  grind
theorem KQ{bs:List (List Nat)}(f:Closed bs L):∀(k:Nat) (acc:List Nat),acc.length=k->(∀e,L e=a38->∀j,(acc.getD e 0).testBit j=a38->L j=a38)->
 ∀e,L e=a38->∀j,((KC acc (bs.drop k)).getD e 0).testBit j=a38->L j=a38:=by
 intro k;have main:∀(n k:Nat) (acc:List Nat),bs.length-k=n->acc.length=k->(∀e,L e=a38->∀j,(acc.getD e 0).testBit j=a38->L j=a38)->
  ∀e,L e=a38->∀j,((KC acc (bs.drop k)).getD e 0).testBit j=a38->L j=a38:=by
  intro n
  induction n with
  |zero=>
   intro k acc hn hl a e he j hj;rw[Lac U]at hj;exact a e he j hj
  |succ n g=>
   intro k acc hn hl a e he j hj;have hk:k<bs.length:=U
   rw[lab hk]at hj;simp only[KC]at hj;refine g (k+1) (acc++[am1 acc bs[k]]) U o4 ?_ e he j hj;intro x hx y b;rw[Oac,List.getElem?_append]at b;split at b
   .exact a x hx y l5
   .rename_i hlt;by_cases d:x=k
    .subst d;rw[hl,Nat.sub_self]at b;simp only[List.getElem?_cons_zero,κ]at b;exact EO acc a _ 0 (λe' c=>f x _ (n! hk) hx e' c) (λj h=>o4) y b
    grind
 grind
theorem Xz{bs:List (List Nat)}(a:Closed bs L) {e:Nat}(he:L e=a38) (hj:((VD bs).getD e 0).testBit j=a38):L j=a38:=by
 have:=KQ a 0 [] rfl (λe _ j h=>o4) e he j;simp only[List.drop_zero]at this;exact this hj
open Go.RowKit (Below)
theorem W8{m:List Ent}(h:Hd m d=M n) (ht:df d=M id):∃e,m[id]?=M e:=by
 unfold Hd at h
 grind[df]
theorem vL{i:I}{m1:List Ent}(he:fa s i=M (d,m1)) (hx:i.at?=M x) (ht:df (s.ev x)=M id):∃e,s.m[id]?=M e:=by
 cases i<;>simp only[I.at?,reduceCtorEq,T']at hx<;>subst hx
 .grind[fa,df]
 all_goals grind[fa,df,W8,A']
section
variable (dst:Nat->Option Tmp) (dd:Nat->D) (xx:Nat->List Ent) (L:Nat->Bool)
def tS(t0:List D):Nat->List D
 |0=>t0
 |n+1=>if L n then(match dst n with|some y=>(tS t0 n).set y (dd n)|none=>tS t0 n)else tS t0 n
def mS(m0:List Ent):Nat->List Ent
 |0=>m0
 |n+1=>if L n then mS m0 n++xx n else mS m0 n
end
section
variable {dst:Nat->Option Tmp} {dd:Nat->D} {xx:Nat->List Ent} {L:Nat->Bool}
theorem dD(t0:List D):∀n,(tS dst dd L t0 n).length=t0.length
 |0=>rfl
 |n+1=>by
  simp only[tS];split
  .split
   .simp[dD t0 n]
   .exact dD t0 n
  .exact dD t0 n
theorem ad5(t0:List D) (n y:Nat):(tS dst dd L t0 (n+1)).getD y d!=if L n=a38/\dst n=M y/\y<t0.length then dd n else(tS dst dd L t0 n).getD y d!:=by
 simp only[tS];by_cases a:L n=a38
 .rw[J a]
  cases hd:dst n with
  |none=>simp
  |some z=>
   simp only;rw[Oac,eae];by_cases b:z=y
   .subst b;rw[J rfl,dD]
    grind[dD]
   simp_all
 simp_all
theorem tX(t0:List D) {y:Nat}:∀{q:Nat},i<=q->(∀j,j<q->dst j=M y->(L j=a38↔j<i))->(tS dst dd L t0 q).getD y d!=(tS dst dd (λ_=>a38) t0 i).getD y d!:=by
 have h1:∀n,n<=i->(∀j,j<n->dst j=M y->L j=a38)->(tS dst dd L t0 n).getD y d!=(tS dst dd (λ_=>a38) t0 n).getD y d!:=by
  intro n
  induction n with
  |zero=>intro _ _;rfl
  |succ n a=>
   grind[ad5]
 intro q
 induction q with
 |zero=>simp_all
 |succ q a=>
  intro hi h;by_cases hq:i=q+1
  .simp_all
  .rw[ad5,if_neg ?_]
   all_goals grind
theorem wK(m0:List Ent):∀(q:Nat),(∀i j,i<j->j<q->xx i≠[]->xx j≠[]->L j=a38->L i=a38)->∃k,k<=q/\mS xx L m0 q=mS xx (λ_=>a38) m0 k
 |0,_=>⟨0,x? _,rfl⟩
 |q+1,h=>by
  obtain⟨k,hk,he⟩:=wK m0 q λi j a hj=>h i j a U;by_cases hx:xx q=[]
  .grind[mS]
  .by_cases hL:L q=a38
   .refine⟨q+1,x? _,?_⟩;have hall:∀n,n<=q->mS xx L m0 n=mS xx (λ_=>a38) m0 n:=by
     intro n
     induction n with
     |zero=>intro _;rfl
     |succ n ih=>
      grind[mS]
    simp_all[mS]
   grind[mS]
theorem VM(m0:List Ent) (h:k<=i):∃r,mS xx (λ_=>a38) m0 i=mS xx (λ_=>a38) m0 k++r:=by
 induction i with
 |zero=>simp_all
 |succ i ih=>
  by_cases hk:k=i+1
  .simp_all
  grind[mS]
theorem qW(m0:List Ent) :∀{q:Nat},i<=q->(∀j,j<q->xx j≠[]->(L j=a38↔j<i))->mS xx L m0 q=mS xx (λ_=>a38) m0 i:=by
 have h1:∀n,n<=i->(∀j,j<n->xx j≠[]->L j=a38)->mS xx L m0 n=mS xx (λ_=>a38) m0 n:=by
  intro n
  induction n with
  |zero=>intro _ _;rfl
  |succ n a=>
   grind[mS]
 intro q
 induction q with
 |zero=>simp_all
 |succ q a=>
  grind[mS]
theorem V5(t0:List D) {a:Nat->Bool}(hi:L i=a39) (hL':∀j,a j=(L j || j==i)):∀{q:Nat},i<q->(∀j,i<j->j<q->∀y,dst i=M y->dst j=M y->L j=a39)->
 tS dst dd a t0 q=(match dst i with|some y=>(tS dst dd L t0 q).set y (dd i)|none=>tS dst dd L t0 q):=by
 have hlow:∀n,n<=i->tS dst dd a t0 n=tS dst dd L t0 n:=by
  intro n
  induction n with
  |zero=>intro _;rfl
  |succ n c=>
   grind[tS]
 intro q
 induction q with
 |zero=>omega
 |succ q c=>
  intro hq hw;by_cases hqi:q=i
  .simp_all[tS]
  .have d:a q=L q:=l5
   have b:=c U λj hj hjq=>hw j hj U;simp only[tS,d,b]
   cases hdi:dst i with
   |none=>simp
   |some y=>
    simp only;split
    .rename_i hLq;split
     .rename_i z hz;have hne:y≠z:=by
       grind
      grind[iaf]
     .rfl
    .rfl
theorem D4(m0:List Ent) {a:Nat->Bool}(hi:L i=a39) (hL':∀j,a j=(L j || j==i)):∀{q:Nat},i<q->(∀j,i<j->j<q->xx i≠[]->xx j≠[]->L j=a39)->
 mS xx a m0 q=mS xx L m0 q++xx i:=by
 have hlow:∀n,n<=i->mS xx a m0 n=mS xx L m0 n:=by
  intro n
  induction n with
  |zero=>intro _;rfl
  |succ n c=>
   grind[mS]
 intro q
 induction q with
 |zero=>omega
 |succ q c=>
  intro hq hw;by_cases hqi:q=i
  .simp_all[mS]
  .have d:a q=L q:=l5
   have b:=c U λj hj hjq=>hw j hj U;simp only[mS,d,b];split
   .rename_i hLq;by_cases hxi:xx i=[]
    all_goals grind
   .rfl
end
def iI(P:a44) (r:RI) (s:St) (d:D) (x:List Ent):Prop:=
 match r with
 |.op _ g i=>((j! s g=M s5\/∃c,j! s g=M (M (c,c)))/\fa s i=M (d,s.m++x))\/((∃c b,j! s g=M (M (c,b))/\c≠b)/\d=.v undef/\x=[])
 |.call _ g f args=>∃k first caps,s.cv f=.fn k first caps/\x=[]/\
  (((j! s g=M s5\/∃c,j! s g=M (M (c,c)))/\∀m,CallT P k (first++args.map s.ev++caps) m λd' m'=>d'=d/\m'=m)\/((∃c b,j! s g=M (M (c,b))/\c≠b)/\d=.v undef))
def after(s:St) (r:RI) (d:D) (x:List Ent):St:=({ s with m:=s.m++x }:St).put r.dst d
def JU(P:a44):List RI->St->List (D×List Ent)->St->Prop
 |[],s,os,s'=>os=[]/\s'=s
 |r::l,s,os,s'=>∃d x os',os=(d,x)::os'/\iI P r s d x/\JU P l (after s r d x) os' s'
section
variable {P:a44}
theorem JU.length:∀{l:List RI}{s s':St}{os:List (D×List Ent)},JU P l s os s'->os.length=l.length
 |[],s,s',os,h=>by simp[h.1]
 |r::l,s,s',os,h=>by
  obtain⟨d,x,os',rfl,_,h⟩:=h;simp[JU.length h]
def fI(rl:List RI) (os:List (D×List Ent)) (s:St) (L:Nat->Bool) (n:Nat):St:=
 ⟨tS (λi=>(rl.getD i (.op s5 s5 (.mv (.const undef)))).dst) (λi=>(os.getD i (d!,[])).1) L s.t n,mS (λi=>(os.getD i (d!,[])).2) L s.m n⟩
theorem GS(s:St) (r:RI) (d:D) (x:List Ent):(after s r d x).t=(match r.dst with|some y=>s.t.set y d|none=>s.t)/\(after s r d x).m=s.m++x:=by
 unfold after St.put
 grind
theorem JU.get{rl:List RI}{os:List (D×List Ent)}{s0:St}:∀{l:List RI}{k:Nat}{s':St}{os':List (D×List Ent)},l=(rl.drop k).take l.length->os'=(os.drop k).take os'.length->JU P l (fI rl os s0 (λ_=>a38) k) os' s'->
 (∀i,i<l.length->iI P (rl.getD (k+i) (.op s5 s5 (.mv (.const undef)))) (fI rl os s0 (λ_=>a38) (k+i)) (os.getD (k+i) (d!,[])).1 (os.getD (k+i) (d!,[])).2)/\s'=fI rl os s0 (λ_=>a38) (k+l.length)
 |[],k,s',os',_,_,h=>⟨λi hi=>o4,by simpa using h.2⟩
 |r::l,k,s',os',c,h2,h=>by
  obtain⟨d,x,a,rfl,hs,h⟩:=h;have hr:rl[k]?=M r:=by
   have:=congrArg (λl=>l[0]?) c
   grind
  have ho:os[k]?=M (d,x):=by
   have:=congrArg (λl=>l[0]?) h2
   grind
  have hr':rl.getD k (.op s5 s5 (.mv (.const undef)))=r:=l5
  have ho':os.getD k (d!,[])=(d,x):=l5
  have b:after (fI rl os s0 (λ_=>a38) k) r d x=fI rl os s0 (λ_=>a38) (k+1):=by
   have ha:=GS (fI rl os s0 (λ_=>a38) k) r d x;have:after (fI rl os s0 (λ_=>a38) k) r d x=⟨(after (fI rl os s0 (λ_=>a38) k) r d x).t,(after (fI rl os s0 (λ_=>a38) k) r d x).m⟩:=rfl
   simp_all[fI,tS,mS]
  rw[b]at h;have t1:l=(rl.drop (k+1)).take l.length:=by
   grind[lab]
  have t2:a=(os.drop (k+1)).take a.length:=by
   grind[lab]
  obtain⟨g1,g2⟩:=JU.get t1 t2 h;refine⟨λi hi=>?_,o4⟩
  cases i with
  |zero=>grind
  |succ i=>
   have:=g1 i o4
   grind
theorem S?{L c:Nat->Bool}{i:Nat}(hi:L i=a39) (d:∀j,c j=(L j || j==i)):∀{l:List Nat},i∈l->(l.filter λj=>!c j).length<(l.filter λj=>!L j).length
 |[],h=>by cases h
 |a::l,h=>by
  have mono:∀l:List Nat,(l.filter λj=>!c j).length<=(l.filter λj=>!L j).length:=by
   intro l
   induction l with
   |nil=>simp
   |cons b l f=>
    grind
  by_cases ha:a=i
  .grind
  .have e:i∈l:=by
    grind
   have f:=S? hi d e
   grind
theorem ZA{ops:Array Oper}:∀{l:List Oper}{rl:List RI},Wi P ops l=M rl->rl.length=l.length/\∀(i:Nat) o,l[i]?=M o->∃r,rl[i]?=M r/\Zt P ops o=M r
 |[],rl,h=>by grind[Wi]
 |o::l,rl,h=>by
  simp only[Wi]at h;split at h
  .rename_i r rs h1 h2;injection h with h;subst h;obtain⟨g1,g2⟩:=ZA h2
   grind
  .cases h
theorem rD(h:Zt P ops o=M r):r.dst=o.dst:=by
 unfold Zt at h;split at h
 .cases h
 .split at h
  .injection h with h;subst h;rfl
  .simp only[A']at h;obtain⟨i,-,rfl⟩:=h;rfl
theorem bn9(hc:Zt P ops o=M r) {x:List Ent}(hf:iI P r sc d x) (ht:∀t∈r.reads,s.t.getD t d!=sc.t.getD t d!)
 (hm:r.cls=2->s.m=sc.m) (V:∀(id:Nat),(∃e,sc.m[id]?=M e)->id<s.m.length->s.m[id]?=sc.m[id]?) (F:r.cls<=2)
 {G:Gh} {w:a42} (hr:o? G w a s) (hi:ops[i]?=M o) {Q:Exit->Act->a42->Prop} {K:Act->a42->Prop}
 (T:∀G' w' a',o? G' w' a' (after s r d x)->Step G w s.m G' w' (s.m++x)->K a' w'):wpOp P ops Q i K a w:=by
 have hdst:=rD hc;unfold wpOp;simp only[hi];unfold Zt at hc;split at hc
 .grind
 .rename_i g hg;obtain⟨hgate1,hgate2⟩:=Qr hr hg;have hgt:j! s g=j! sc g:=rO (λt h=>ht t (by
   split at hc
   .grind[RI.reads]
   .simp only[A']at hc;obtain⟨i,-,rfl⟩:=hc
    grind[RI.reads]))
  have S:(j! sc g=M s5\/∃c,j! sc g=M (M (c,c)))->Region.wanted o (yielded ops a.tmps)=a38:=by
   grind
  have woff:(∃c b,j! sc g=M (M (c,b))/\c≠b)->Region.wanted o (yielded ops a.tmps)=a39:=by
   grind
  have skip:d=.v undef->x=[]->K (a.put o.dst undef) w:=by
   rintro rfl rfl;refine T G w _ ?_ (by grind[Step.refl])
   simp_all[after,oJ]
  split at hc
  .rename_i f args ho;injection hc with hc;subst hc;obtain⟨k,first,caps,hfe,rfl,hf⟩:=hf;have j6:s.cv f=.fn k first caps:=by grind[RI.reads,MN]
   have z:args.map s.ev=args.map sc.ev:=F? (λt h=>ht t (by grind[RI.reads]));rcases hf with⟨B,A⟩|⟨N,hd⟩
   .rw[J (S B)];refine .inl ?_;obtain⟨⟨fn,e1,e2,e3⟩,E⟩:=A s.m;obtain⟨fs,cs,O,X,Y⟩:=GF hr ho (as1 j6) e1 e2 e3;rw[←z]at E;have q:=E G w (fs++args.map a.eval++cs) ((X.append (OF hr _)).append Y) hr.inv;unfold Oper.wp;rw[O,Oper.upon_enter];refine q.mono ?_;rintro e w' ⟨v,d',m',G',rfl,⟨rfl,rfl⟩,Z,j8,C⟩;refine T G' w' _ ?_ l5;unfold after;rw[X!];exact(hr.step C.le j8).put o.dst Z
   simp_all
  .rename_i hno;simp only[A']at hc;obtain⟨j,hj,rfl⟩:=hc;rcases hf with⟨B,H⟩|⟨N,hd,hx⟩
   .rw[J (S B)];refine .inl ?_;have j9:fa s j=M (d,s.m++x):=by
     simp only[RI.cls]at F hm;have R:∀t∈j.reads,s.t.getD t d!=sc.t.getD t d!:=λt h=>ht t (by grind[RI.reads]);by_cases h2:j.cls=2
     .grind[kO]
     .have h1:j.cls<=1:=U
      obtain⟨hxm,hres⟩:=qv (s:=sc) (s':=s) h1 R (λy id hy l=>by
       refine V id (vL H hy l) ?_;have p:=hr.ev y;have L:s.ev y=sc.ev y:=Ca (λt h=>R t (by
        cases j<;>simp only[I.at?,reduceCtorEq,T']at hy<;>subst hy<;>simp[I.reads,h]))
       rw[L]at p;have hn:=hr.inv.n;generalize sc.ev y=dy at *;cases dy<;>simp only[df,reduceCtorEq,T']at l
       .subst l;simp only[VRel]at p;omega
       .subst l;simp only[VRel]at p;omega
       .subst l;simp only[VRel]at p;omega
       .subst l;simp only[VRel]at p;omega) H
      simp_all
    exact hr.wx (IF hj hr j9) λG' w' u W C=>T G' w' _ W C
   simp_all
end
open Go.RowKit (Below)
section
variable {P:a44}
theorem aE0{Q:Exit->Act->a42->Prop}{K:St->Prop}{rs:List RI}{G:Gh}{w:a42}(h:Zt P ops o=M r) (p:ln P (r::rs) K s) (hr:o? G w a s)
 (hi:ops[i]?=M o) {Kx:Act->a42->Prop} (rest:∀{G':Gh} {w':a42} {a':Act} {s':St},ln P rs K s'->o? G' w' a' s'->Step G w s.m G' w' s'.m->Kx a' w'):wpOp P ops Q i Kx a w:=by
 unfold wpOp;simp only[hi];unfold Zt at h;split at h
 .grind
 .rename_i g B;obtain⟨hgate1,hgate2⟩:=Qr hr B;have doI:∀{i:I} {d:D} {m':List Ent},ax P ops o o.op=M i->fa s i=M (d,m')->ln P rs K ({ s with m:=m' }.put o.dst d)->o.wp P a w Kx Q:=by
   intro i d m' hi he b;exact hr.wx (IF hi hr he) λG' w' u x n=>rest b x (by grind[PL])
  have skip:ln P rs K (s.put o.dst (.v undef))->Kx (a.put o.dst undef) w:=λb=>rest b (oJ hr o.dst) (by grind[PL,Step.refl]);split at h
  .rename_i f args ho;injection h with h;subst h;simp only[ln]at p;split at p
   .rename_i k first caps q
    have doC:CallT P k (first++args.map s.ev++caps) s.m (λd m'=>ln P rs K ({ s with m:=m' }.put o.dst d))->o.wp P a w Kx Q:=by
     rintro⟨⟨fn,e1,e2,e3⟩,j⟩;obtain⟨fs,cs,l,y,z⟩:=GF hr ho q e1 e2 e3;have c:=j G w (fs++args.map a.eval++cs) ((y.append (OF hr _)).append z) hr.inv;unfold Oper.wp;rw[l,Oper.upon_enter];refine c.mono ?_;rintro e w' ⟨v,d,m',G',rfl,b,A,t,n⟩;exact rest b ((hr.step n.le t).put o.dst A) (by grind[PL])
    grind
   grind
  .rename_i hno;simp only[A']at h;obtain⟨i,hi,rfl⟩:=h;simp only[ln]at p
   grind
theorem ao6(hi:i<listed.size) (d:Bool):(listed.setIfInBounds i a38).getD j d=if j=i then a38 else listed.getD j d:=by
 simp only[ead,Array.getElem?_setIfInBounds]
 grind
theorem lL(h:ops[i]?=M o):(Pb ops)[i]?=M ((o.after.toList.filter λe=>Region.binds .any e).map (·.on)):=by
 grind[Pb]
structure TailFacts (bs:List (List Nat)) (rl:List RI) (q:Nat):Prop where
 len:bs.length=rl.length
 hq:q<=rl.length
 back:∀(i:Nat) b,bs[i]?=M b->∀e∈b,e<i
 tail:∀(i j:Nat),i<j->q<=j->j<rl.length->((VD bs).getD j 0).testBit i=a38
theorem rU{bs:List (List Nat)}{rl:List RI}{q:Nat}(h:qU bs rl cuts q=a38) :
 TailFacts bs rl q/\∀p∈cuts,∀(i j:Nat),i<p->p<=j->j<rl.length->((VD bs).getD j 0).testBit i=a38:=by
 unfold qU at h;simp only[E!,aaA,w3,R',Eac,Kad]at h;obtain⟨⟨⟨⟨h0,a⟩,h2⟩,h3⟩,h4⟩:=h;refine⟨⟨a,h2,?_,?_⟩,?_⟩
 .simp_all[dab]
 all_goals grind
structure Z! (bs:List (List Nat)) (rl:List RI) (q:Nat):Prop extends TailFacts bs rl q where
 cls:∀(j:Nat) y,j<q->rl[j]?=M y->y.cls<=2
 apart:∀(i j:Nat) x y,i<j->j<q->rl[i]?=M x->rl[j]?=M y->OG x y=a38->((VD bs).getD j 0).testBit i=a38
theorem Ez{bs:List (List Nat)}{rl:List RI}{q:Nat}(h:dK bs rl q=a38):Z! bs rl q:=by
 unfold dK at h;simp only[E!,aaA,w3,R',Eac]at h;obtain⟨⟨⟨a,h2⟩,h3⟩,h4⟩:=h;have hy:∀(j:Nat) y,rl[j]?=M y->j<rl.length:=λj y hj=>(dab.1 hj).1;refine⟨⟨a,h2,?_,?_⟩,?_,?_⟩
 rotate_left
 .grind
 rotate_right
 .simp_all[dab]
 all_goals grind
section
variable {ops:Array Oper} {Q:Exit->Act->a42->Prop} {K:St->Prop} {rl:List RI} {q:Nat}
def Me(listed:Array Bool):Nat->Bool:=λi=>listed.getD i a39
theorem rB(hf:TailFacts (Pb ops) rl q) (hsz:listed.size=ops.size) (h:Closed (Pb ops) (Me listed)) (hi:i∈Region.ready .any ops listed) :
 i<ops.size/\Me listed i=a39/\(∀j,j≠i->((VD (Pb ops)).getD i 0).testBit j=a38->Me listed j=a38)/\Closed (Pb ops) (Me (listed.setIfInBounds i a38))/\
 (∀j,Me (listed.setIfInBounds i a38) j=(Me listed j || j==i)):=by
 obtain⟨h0,o,ho,f⟩:=mem_ready.1 hi;have k:i<ops.size:=(Array.getElem?_eq_some_iff.1 ho).1;have g:Me listed i=a39:=by
  grind[Me]
 have d:∀j,Me (listed.setIfInBounds i a38) j=(Me listed j || j==i):=by
  intro j;unfold Me;rw[ao6 U]
  grind
 have c:Closed (Pb ops) (Me (listed.setIfInBounds i a38)):=by
  intro j b hb hj e he;rw[d]at hj⊢;simp only[Kad,aaA]at hj⊢;rcases hj with hj|hj
  .exact .inl (h j b hb hj e he)
  .subst hj;have a:=lL ho;rw[hb]at a;injection a with a;subst a;simp only[List.mem_map,List.mem_filter,Array.mem_toList_iff]at he;obtain⟨ed,⟨l,h2⟩,rfl⟩:=he;exact .inl (f ed l h2)
 refine⟨k,g,λj hne hj=>?_,c,d⟩;have:=Xz c (e:=i) l5 hj
 simp_all
theorem bF(hf:TailFacts (Pb ops) rl q) (hsz:listed.size=ops.size) (hno:Region.ready .any ops listed=[]):∀i,i<ops.size->Me listed i=a38:=by
 intro i
 induction i using lad with
 |_ i c=>
  intro hi;rcases hb:Me listed i with _|_
  .exfalso;have:i∈Region.ready .any ops listed:=by
    refine mem_ready.2 ⟨?_,ops[i],Oab hi,λe he hbi=>?_⟩
    .grind[Me]
    .have a:=lL (Oab hi);have b:=hf.back i _ a e.on (by
      grind)
     exact c e.on b U
   simp_all
  .rfl
theorem YF(hc:Wi P ops ops.toList=M rl) (hf:TailFacts (Pb ops) rl q) :
 ∀(n r:Nat) (fuel:Nat) (listed:Array Bool) (s:St) (G:Gh) (w:a42) (a:Act),ops.size-r=n->n<=fuel->q<=r->r<=ops.size->listed.size=ops.size->(∀i,Me listed i=s6 (i<r))->
  ln P (rl.drop r) K s->o? G w a s->(∀s' G' w' a',K s'->o? G' w' a' s'->Step G w s.m G' w' s'.m->Q .normal a' w')->wpAny P .any ops Q fuel listed a w:=by
 obtain⟨x,v⟩:=ZA hc;simp only[Iac]at x;have c:∀(r:Nat) (L:Nat->Bool),(∀i,L i=s6 (i<r))->Closed (Pb ops) L:=by
  intro r L u i b hb hi e he;have:=hf.back i b hb e he
  grind
 intro n
 induction n with
 |zero=>
  intro r fuel listed s G w a hn k hq hr f u t d hQ;have hrn:r=ops.size:=U
  have o:Region.ready .any ops listed=[]:=by
   cases hre:Region.ready .any ops listed with
   |nil=>rfl
   |cons i l=>
    obtain⟨j6,h2,-⟩:=rB hf f (c r _ u) (i:=i) l5
    simp_all
  rw[Lac U]at t;have g:=hQ s G w a t d (Step.refl _ _ _)
  cases fuel with
  |zero=>exact⟨o,g⟩
  |succ fuel=>exact⟨λ_=>g,λi hi=>l5⟩
 |succ n O=>
  intro r fuel listed s G w a hn k hq hr f u t d hQ
  cases fuel with
  |zero=>omega
  |succ fuel=>
   have z:r<ops.size:=U
   refine⟨λF=>?_,λi hi=>?_⟩
   .have:=bF hf f F r z
    simp_all
   .obtain⟨j6,h2,N,h4,h5⟩:=rB hf f (c r _ u) hi;have E:i=r:=by
     rw[u]at h2;simp at h2;rcases Κ r i with h|h
     .have:=N r U (hf.tail r i h U U)
      simp_all
     omega
    subst E;have ho:ops[i]?=M ops[i]:=Oab j6;obtain⟨T,hri,D⟩:=v i ops[i] o0;have y:rl.drop i=T::rl.drop (i+1):=by
     grind[lab]
    rw[y]at t;refine aE0 D t d ho λC p H=>?_;refine O (i+1) fuel (listed.setIfInBounds i a38) _ _ _ _ U U U U (by simp[f]) (λj=>?_) C p λI A j9 B R S k3=>hQ I A j9 B R S (H.trans k3)
    grind
theorem QP{dst:Nat->Option Tmp}{dd:Nat->D}{L a:Nat->Bool}(t0:List D):∀n,(∀j,j<n->L j=a j)->tS dst dd L t0 n=tS dst dd a t0 n
 |0,_=>rfl
 |n+1,h=>by simp only[tS,h n U,QP t0 n λj hj=>h j U]
theorem DO{xx:Nat->List Ent}{L a:Nat->Bool}(m0:List Ent):∀n,(∀j,j<n->L j=a j)->mS xx L m0 n=mS xx a m0 n
 |0,_=>rfl
 |n+1,h=>by simp only[mS,h n U,DO m0 n λj hj=>h j U]
theorem zS{a:Nat->Bool}(n:Nat) (h:∀j,j<n->L j=a j):fI rl os s0 L n=fI rl os s0 a n:=by
 grind[fI,QP,DO]
theorem O'(q:Nat):∀n,((p! n).filter λj=>!s6 (j<q)).length=n-q
 |0=>o0
 |n+1=>by
  rw[List.range_succ,List.filter_append,Τ,O' q n]
  grind
theorem getD_some(h:i<l.length) (d:RI):l[i]?=M (l.getD i d):=by
 simp_all
theorem O7(hc:Wi P ops ops.toList=M rl) (hf:Z! (Pb ops) rl q) 
 (I:∀i,i<q->iI P (rl.getD i (.op s5 s5 (.mv (.const undef)))) (fI rl os s0 (λ_=>a38) i) (os.getD i (d!,[])).1 (os.getD i (d!,[])).2)
 (B:∀i,i<q->(os.getD i (d!,[])).2≠[]->(rl.getD i (.op s5 s5 (.mv (.const undef)))).cls=2)
 (hT:ln P (rl.drop q) K (fI rl os s0 (λ_=>a38) q)) :
 ∀(fuel:Nat) (listed:Array Bool) (G:Gh) (w:a42) (a:Act),((p! ops.size).filter λj=>!Me listed j).length<=fuel->listed.size=ops.size->Closed (Pb ops) (Me listed)->
  (∀j,q<=j->Me listed j=a39)->o? G w a (fI rl os s0 (Me listed) q)->
  (∀s' G' w' a',K s'->o? G' w' a' s'->Step G w (fI rl os s0 (Me listed) q).m G' w' s'.m->Q .normal a' w')->wpAny P .any ops Q fuel listed a w:=by
 obtain⟨N,j9⟩:=ZA hc;simp only[Iac]at N;have hq:=hf.hq;intro fuel
 induction fuel with
 |zero=>
  intro listed G w a c p u E v hQ;have F:∀i,i<ops.size->Me listed i=a38:=by
   simp_all
  have hqn:q=ops.size:=by
   rcases Κ q ops.size with h|h
   all_goals grind
  have C:fI rl os s0 (Me listed) q=fI rl os s0 (λ_=>a38) q:=zS q λj hj=>F j U;refine YF hc hf.toTailFacts 0 q 0 listed _ G w a U (x? _) (x? _) U p (λi=>?_) hT l5 o4
  grind
 |succ fuel ih=>
  intro listed G w a c p u E v hQ;by_cases b:∀j,j<q->Me listed j=a38
  ·
    have C:fI rl os s0 (Me listed) q=fI rl os s0 (λ_=>a38) q:=zS q λj hj=>b j hj;have hL:∀i,Me listed i=s6 (i<q):=λi=>by
     grind
    have hcnt:=O' q ops.size;simp only[hL]at c;exact YF hc hf.toTailFacts (ops.size-q) q (fuel+1) listed _ G w a rfl U (x? _) U p hL hT l5 o4
  .refine⟨λhno=>(b λj hj=>bF hf.toTailFacts p hno j U).elim,λi hi=>?_⟩;obtain⟨h1,h2,h3,h4,V⟩:=rB hf.toTailFacts p u hi;have n:i<q:=by
    rcases Κ i q with h|h
    .exact h
    .exact(b λj hj=>h3 j U (hf.tail j i U h U)).elim
   have hri:=getD_some (l:=rl) (i:=i) U (.op s5 s5 (.mv (.const undef)));obtain⟨r,hr,Z⟩:=j9 i ops[i] o0;have hrr:rl.getD i (.op s5 s5 (.mv (.const undef)))=r:=l5
   have early:∀j x,j<i->rl[j]?=M x->OG x r=a38->Me listed j=a38:=λj x hj hx d=>h3 j U (hf.apart j i x r hj n hx hr d);have late:∀j y,i<j->j<q->rl[j]?=M y->OG r y=a38->Me listed j=a39:=by
    intro j y hj hjq hy d;rcases hb:Me listed j with _|_
    .rfl
    .have:=Xz u hb (hf.apart i j r y hj hjq hr hy d)
     simp_all
   have g:∀j,j<q->rl[j]?=M (rl.getD j (.op s5 s5 (.mv (.const undef)))):=λj hj=>getD_some U _;have hF:=I i n;rw[hrr]at hF;have A:r.cls<=2:=hf.cls i r n hr;have O:∀j,j<q->(os.getD j (d!,[])).2≠[]->(rl.getD j (.op s5 s5 (.mv (.const undef)))).cls=2:=B;have f:∀x y:RI,x.cls=2->y.cls=2->OG x y=a38:=λx y hx hy=>by grind[OG]
   refine bn9 Z hF (s:=fI rl os s0 (Me listed) q) ?_ ?_ ?_ A v (Oab h1) ?_
   ·
     intro y hy;refine tX s0.t U λj hj hd=>?_
     grind[OG]
   ·
     intro hcls;refine qW s0.m U λj hj hx=>?_
     grind
   ·
     rintro id ⟨e,he⟩ j6;obtain⟨k,hk,R⟩:=wK (xx:=λi=>(os.getD i (d!,[])).2) (L:=Me listed) s0.m q λi1 j1 hij hj hx1 hx2 W=>
      Xz u W (hf.apart i1 j1 _ _ hij hj (g i1 U) (g j1 hj) (f _ _ (O i1 U hx1) (O j1 hj hx2)))
     simp only[fI]at he j6⊢;rw[R]at j6⊢;rcases naf i k with h|h
     .obtain⟨rr,S⟩:=VM (xx:=λi=>(os.getD i (d!,[])).2) s0.m h
      grind
     .obtain⟨rr,S⟩:=VM (xx:=λi=>(os.getD i (d!,[])).2) s0.m h
      grind
   ·
     intro G' w' a' o hs';have C:after (fI rl os s0 (Me listed) q) r (os.getD i (d!,[])).1 (os.getD i (d!,[])).2=fI rl os s0 (Me (listed.setIfInBounds i a38)) q:=by
      obtain⟨X,Y⟩:=GS (fI rl os s0 (Me listed) q) r (os.getD i (d!,[])).1 (os.getD i (d!,[])).2;have H:∀z:St,z=⟨z.t,z.m⟩:=λz=>rfl;rw[H (after _ _ _ _),X,Y];simp only[fI,St.mk.injEq];constructor
      .rw[V5 s0.t h2 V n ?_]
       all_goals grind[OG]
      .rw[D4 s0.m h2 V n ?_]
       grind
     rw[C]at o;refine ih (listed.setIfInBounds i a38) G' w' a' ?_ o4 h4 ?_ o ?_
     .have:=S? h2 V (l:=p! ops.size) o4;omega
     .grind
     .intro s'' T w'' j8 k1 k2 k3;refine hQ s'' T w'' j8 k1 k2 (hs'.trans ?_)
      grind[GS]
theorem AT{x:List Ent}(h:iI P r s d x) (a:r.cls<=2) (hx:x≠[]):r.cls=2:=by
 cases r with
 |call dst g f args=>
  obtain⟨_,_,_,_,h,_⟩:=h
  simp_all
 |op dst g i=>
  rcases h with⟨-,h⟩|⟨-,-,h⟩
  .simp only[RI.cls]at a⊢;rcases Κ i.cls 2 with h2|h2
   .obtain⟨hm,-⟩:=qv (s:=s) (s':=s) U (λ_ _=>rfl) (λ_ _ _ _=>rfl) h
    simp_all
   omega
  simp_all
theorem OY(Hz:P.follows .mixedOrders=a38) (hc:Wi P ops ops.toList=M rl) (g:dK (Pb ops) rl q=a38) {s1:St}(p:JU P (rl.take q) s os s1) (r:ln P (rl.drop q) K s1)
 {G:Gh} {w:a42} (hr:o? G w a s) (hQ:∀s' G' w' a',K s'->o? G' w' a' s'->Step G w s.m G' w' s'.m->Q .normal a' w'):(Code.region id ops a38).wp P Q a w:=by
 have hf:=Ez g;have c:(rl.take q).length=q:=by rw[Aac];have:=hf.hq;omega
 have e:=p.length;rw[c]at e;have o:fI rl os s (λ_=>a38) 0=s:=rfl;obtain⟨g1,g2⟩:=JU.get (rl:=rl) (os:=os) (s0:=s) (k:=0) (l:=rl.take q) (os':=os) (s':=s1) o0 o0 (by rw[o];omega);simp only[c,Y!]at g1 g2;subst g2;have f:∀j,Me (Zab ops.size a39) j=a39:=by
  intro j;unfold Me;simp only[ead,bae]
  grind
 have d:fI rl os s (Me (Zab ops.size a39)) q=s:=by
  have ht:∀n,tS (λi=>(rl.getD i (.op s5 s5 (.mv (.const undef)))).dst) (λi=>(os.getD i (d!,[])).1) (Me (Zab ops.size a39)) s.t n=s.t:=by
   intro n
   induction n with
   |zero=>rfl
   |succ n u=>simp_all[tS]
  have hm:∀n,mS (λi=>(os.getD i (d!,[])).2) (Me (Zab ops.size a39)) s.m n=s.m:=by
   intro n
   induction n with
   |zero=>rfl
   |succ n u=>simp_all[mS]
  grind[fI]
 refine wp_region_any Hz ?_;have h:=N'.drew w;refine O7 hc hf g1 (λi hi hx=>AT (g1 i hi) (hf.cls i _ hi (getD_some o4 _)) hx) r ops.size _ G _ a ?_ o0 ?_ (λj _=>f j) ?_ ?_
 .grind
 .intro i b _ hi
  simp_all
 .rw[d];exact⟨hr.t.mono (h.le G),h.inv hr.inv,hr.defers⟩
 .intro s' G' w' a' v x k3;rw[d]at k3;exact hQ s' G' w' a' v x ((h.step G s.m).trans k3)
end
end
section
variable {P:a44} {N:Nat}
def IU(P:a44):Nat->List RI->(St->Prop)->St->Prop
 |0,l,K,s=>ln P l K s
 |_+1,[],_,_=>False
 |q+1,.op dst g i::l,K,s=>
  match j! s g with
  |none=>False
  |some s5=>∃d m',fa s i=M (d,m')/\IU P q l K ({ s with m:=m' }.put dst d)
  |some (M (c,b))=>(c=b->∃d m',fa s i=M (d,m')/\IU P q l K ({ s with m:=m' }.put dst d))/\(c≠b->IU P q l K (s.put dst (.v undef)))
 |q+1,.call dst g f args::l,K,s=>
  match s.cv f with
  |.fn k first caps=>
   match j! s g with
   |none=>False
   |some s5=>∃d,(∀m,CallT P k (first++args.map s.ev++caps) m λd' m'=>d'=d/\m'=m)/\IU P q l K (s.put dst d)
   |some (M (c,b))=>(c=b->∃d,(∀m,CallT P k (first++args.map s.ev++caps) m λd' m'=>d'=d/\m'=m)/\IU P q l K (s.put dst d))/\(c≠b->IU P q l K (s.put dst (.v undef)))
  |_=>False
section
variable {ops:Array Oper} {Q:Exit->Act->a42->Prop} {K:St->Prop} {rl:List RI} {q:Nat}
end
theorem XF:∀{q:Nat}{l:List RI}{K:St->Prop}{s:St},IU P q l K s->(∀(j:Nat) y,j<q->l[j]?=M y->y.cls<=2)->∃os s1,JU P (l.take q) s os s1/\ln P (l.drop q) K s1
 |0,l,K,s,h,_=>⟨[],s,by simp[JU],by simpa [IU] using h⟩
 |q+1,[],K,s,h,_=>by simp[IU]at h
 |q+1,.op dst g i::l,K,s,h,hc=>by
  have hci:i.cls<=2:=hc 0 _ U rfl;have o:∀(j:Nat) y,j<q->l[j]?=M y->y.cls<=2:=λj y hj u=>hc (j+1) y U l5;have ext:∀{d:D} {m':List Ent},fa s i=M (d,m')->∃x,m'=s.m++x:=λ{d m'} he=>by
   rcases Κ i.cls 2 with h2|h2
   .exact⟨[],by rw[X!];exact(qv (s:=s) (s':=s) U (λ_ _=>rfl) (λ_ _ _ _=>rfl) he).1⟩
   .obtain⟨-,e,h⟩:=kO (s:=s) (s':=s) U (λ_ _=>rfl) rfl he
    simp_all
  have on:∀{d:D} {m':List Ent},fa s i=M (d,m')->(j! s g=M s5\/∃c,j! s g=M (M (c,c)))->IU P q l K ({ s with m:=m' }.put dst d)->
   ∃os s1,JU P ((RI.op dst g i::l).take (q+1)) s os s1/\ln P ((RI.op dst g i::l).drop (q+1)) K s1:=by
   intro d m' he p r;obtain⟨x,rfl⟩:=ext he;obtain⟨os,s1,t,h2⟩:=XF r o;exact⟨(d,x)::os,s1,by simp only[uab,JU];exact⟨d,x,os,rfl,.inl ⟨p,he⟩,t⟩,l5⟩
  simp only[IU]at h;split at h
  .simp_all
  .grind
  .rename_i c b p;by_cases n:c=b
   .subst n;obtain⟨d,m',he,r⟩:=h.1 rfl
    simp_all
   .obtain⟨os,s1,t,h2⟩:=XF (h.2 n) o;refine⟨(.v undef,[])::os,s1,?_,l5⟩;simp only[uab,JU];refine⟨_,_,os,rfl,.inr ⟨⟨c,b,p,n⟩,rfl,rfl⟩,?_⟩;have:after s (.op dst g i) (.v undef) []=s.put dst (.v undef):=by unfold after;rw[X!];rfl
    simp_all
 |q+1,.call dst g f args::l,K,s,h,hc=>by
  have o:∀(j:Nat) y,j<q->l[j]?=M y->y.cls<=2:=λj y hj u=>hc (j+1) y U l5;have haf:∀d,after s (.call dst g f args) d []=s.put dst d:=λd=>by unfold after;rw[X!];rfl
  simp only[IU]at h;split at h
  .rename_i k first caps hf
   split at h
   .simp_all
   .rename_i p;obtain⟨d,a,r⟩:=h;obtain⟨os,s1,t,h2⟩:=XF r o;refine⟨(d,[])::os,s1,?_,l5⟩;simp only[uab,JU];exact⟨d,[],os,rfl,⟨k,first,caps,hf,rfl,.inl ⟨.inl p,a⟩⟩,l5⟩
   .rename_i c b p;by_cases n:c=b
    .subst n;obtain⟨d,a,r⟩:=h.1 rfl;obtain⟨os,s1,t,h2⟩:=XF r o;refine⟨(d,[])::os,s1,?_,l5⟩;simp only[uab,JU];exact⟨d,[],os,rfl,⟨k,first,caps,hf,rfl,.inl ⟨.inr ⟨c,p⟩,a⟩⟩,l5⟩
    .obtain⟨os,s1,t,h2⟩:=XF (h.2 n) o;refine⟨(.v undef,[])::os,s1,?_,l5⟩;simp only[uab,JU];exact⟨_,[],os,rfl,⟨k,first,caps,hf,rfl,.inr ⟨⟨c,b,p,n⟩,rfl⟩⟩,l5⟩
  simp_all
theorem T.draw{q:Nat}{l:List RI}{K:Exit->St->Prop}{s:St}(hm:P.follows .mixedOrders=a38) (h:IU P q l (K .normal) s):T P N (.draw q l) K s:=by
 intro code hc G w a hN hr;obtain⟨id,ops,rfl,c,b⟩:=ZJ hc;obtain⟨os,s1,d,h2⟩:=XF h (Ez b).cls;exact OY hm c b d h2 hr λs' G' w' a' e f k3=>⟨s',G',e,f,k3.toN hN⟩
end
section
variable (ww:Nat->Option (Nat×Ent)) (L:Nat->Bool)
def sS(m:List Ent):Nat->List Ent
 |0=>m
 |n+1=>if L n then(match ww n with|some (id,e)=>(sS m n).set id e|none=>sS m n)else sS m n
def ZE(id:Nat):Nat->Option Ent
 |0=>s5
 |n+1=>if L n then(match ww n with|some (j,e)=>if j=id then M e else ZE id n|none=>ZE id n)else ZE id n
end
section
variable {ww:Nat->Option (Nat×Ent)} {L:Nat->Bool}
theorem Ot(m:List Ent):∀n,(sS ww L m n).length=m.length
 |0=>rfl
 |n+1=>by
  simp only[sS]
  repeat' split
  all_goals simp[Ot m n]
theorem GP(m:List Ent) (id:Nat):∀n,id<m.length->(sS ww L m n)[id]?=(match ZE ww L id n with|some e=>M e|none=>m[id]?)
 |0,h=>rfl
 |n+1,h=>by
  simp only[sS,ZE];split
  .split
   .rename_i j e hw;rw[eae];by_cases hj:j=id
    .subst hj;rw[J rfl,J rfl,J (by grind[Ot])]
    .rw[p6 hj,p6 hj];exact GP m id n h
   .exact GP m id n h
  .exact GP m id n h
theorem tZ:∀{q:Nat},i<=q->(∀j,j<q->∀e,ww j=M (id,e)->(L j=a38↔j<i))->ZE ww L id q=ZE ww (λ_=>a38) id i:=by
 have h1:∀n,n<=i->(∀j,j<n->∀e,ww j=M (id,e)->L j=a38)->ZE ww L id n=ZE ww (λ_=>a38) id n:=by
  intro n
  induction n with
  |zero=>intro _ _;rfl
  |succ n a=>
   grind[ZE]
 intro q
 induction q with
 |zero=>
  simp_all
 |succ q a=>
  grind[ZE]
theorem J0(m x:List Ent):∀n,(∀j,j<n->L j=a38->∀id e,ww j=M (id,e)->id<m.length)->sS ww L (m++x) n=sS ww L m n++x
 |0,_=>rfl
 |n+1,h=>by
  have ih:=J0 m x n λj hj=>h j U;simp only[sS];split
  .rename_i hL;split
   all_goals grind[Ot]
  omega
theorem aD6(m:List Ent) {a:Nat->Bool}(hi:L i=a39) (hL':∀j,a j=(L j || j==i)):∀{q:Nat},i<q->(∀j,i<j->j<q->L j=a38->∀id e e',ww i=M (id,e)->ww j≠M (id,e'))->
 sS ww a m q=(match ww i with|some (id,e)=>(sS ww L m q).set id e|none=>sS ww L m q):=by
 have hlow:∀n,n<=i->sS ww a m n=sS ww L m n:=by
  intro n
  induction n with
  |zero=>intro _;rfl
  |succ n d=>
   grind[sS]
 intro q
 induction q with
 |zero=>omega
 |succ q d=>
  intro hq hw;by_cases hqi:q=i
  .simp_all[sS]
  .have f:a q=L q:=l5
   have c:=d U λj hj hjq=>hw j hj U;simp only[sS,f,c]
   cases hdi:ww i with
   |none=>simp
   |some p=>
    obtain⟨id,e⟩:=p;simp only;split
    .rename_i hLq;split
     .rename_i b e' hz;have hne:id≠b:=by
       grind
      grind[iaf]
     .rfl
    .rfl
end
def I.tgt:I->Option a43
 |.store _ x _=>M x
 |.trunc _ x _ _=>M x
 |.append _ _ x _=>M x
 |_=>s5
def I.src:I->Option a43
 |.append _ _ _ y=>M y
 |_=>s5
def Ph(s:St):I->Bool
 |.trunc _ x _ _=>match s.ev x with|.own ..=>a38|_=>a39
 |.append _ _ x _=>match s.ev x with|.own ..=>a38|_=>a39
 |_=>a38
theorem bN{i:I}(h:i.tgt=M x):i.cls=3/\((∃n y,i=.store n x y)\/(∃S lo hi,i=.trunc S x lo hi)\/∃S b y,i=.append S b x y):=by
 cases i<;>simp[I.tgt]at h
 .subst h;exact⟨rfl,.inl ⟨_,_,rfl⟩⟩
 .subst h;exact⟨rfl,.inr (.inr ⟨_,_,_,rfl⟩)⟩
 .subst h;exact⟨rfl,.inr (.inl ⟨_,_,_,rfl⟩)⟩
theorem fZ{m1:List Ent}(he:fa s (.store n x y)=M (d,m1)) :
 ∃id e,df (s.ev x)=M id/\m1=s.m.set id e/\(∃e0,s.m[id]?=M e0)/\
  ∀s':St,(∀t∈(I.store n x y).reads,s'.t.getD t d!=s.t.getD t d!)->s'.m[id]?=s.m[id]?->fa s' (.store n x y)=M (d,s'.m.set id e):=by
 simp only[fa]at he;split at he
 .rename_i id Va ix sub hx;split at he
  .rename_i S ver' l hm;split at he
   .rename_i hc;simp only[hac]at he;obtain⟨d0,h0,he⟩:=he;split at he
    .rename_i hc2;injection he with he;injection he with a h2;subst a;subst h2;refine⟨id,_,by rw[hx];rfl,rfl,⟨_,hm⟩,λs' ht hm'=>?_⟩;have ex:s'.ev x=s.ev x:=Ca (λt h=>ht t E?);have ey:s'.ev y=s.ev y:=Ca (λt h=>ht t E?)
     simp_all[fa]
    simp_all
   simp_all
  simp_all
 simp_all
theorem gZ{lo hi:Option a43}{m1:List Ent}(hb:Ph s (.trunc S x lo hi)=a38) (he:fa s (.trunc S x lo hi)=M (d,m1)) :
 ∃id e,df (s.ev x)=M id/\m1=s.m.set id e/\(∃e0,s.m[id]?=M e0)/\
  ∀s':St,(∀t∈(I.trunc S x lo hi).reads,s'.t.getD t d!=s.t.getD t d!)->s'.m[id]?=s.m[id]?->fa s' (.trunc S x lo hi)=M (d,s'.m.set id e):=by
 simp only[Ph]at hb;split at hb
 .rename_i id Va hx;simp only[fa,hx]at he;split at he
  .rename_i S' ver' l hm;split at he
   .rename_i a h hlo hhi;split at he
    .rename_i hc;injection he with he;injection he with b h2;subst b;subst h2;refine⟨id,_,by rw[hx];rfl,rfl,⟨_,hm⟩,λs' ht hm'=>?_⟩;have ex:s'.ev x=s.ev x:=Ca (λt h=>ht t E?);have e1:bound s' 0 lo=bound s 0 lo:=jv (λt h=>ht t E?);have e2:bound s' l.length hi=bound s l.length hi:=jv (λt h=>ht t E?)
     simp_all[fa]
    simp_all
   simp_all
  simp_all
 simp_all
theorem LN{m m':List Ent}(h:∀id,df d=M id->m'[id]?=m[id]?):h! S m' d=h! S m d:=by
 cases d with
 |own id v=>simp only[h!];rw[h _ rfl]
 |view id v a b=>simp only[h!];rw[h _ rfl]
 |v x=>simp only[h!];grind
 |_=>rfl
theorem iZ{m1:List Ent}(hb:Ph s (.append S b x y)=a38) (he:fa s (.append S b x y)=M (d,m1)) :
 ∃id e,df (s.ev x)=M id/\m1=s.m.set id e/\(∃e0,s.m[id]?=M e0)/\
  ∀s':St,(∀t∈(I.append S b x y).reads,s'.t.getD t d!=s.t.getD t d!)->s'.m[id]?=s.m[id]?->(∀a,df (s.ev y)=M a->s'.m[a]?=s.m[a]?)->fa s' (.append S b x y)=M (d,s'.m.set id e):=by
 simp only[Ph]at hb;split at hb
 .rename_i id Va hx;simp only[fa,hx]at he;split at he
  .rename_i r hr;split at he
   .rename_i S' ver' l hm;split at he
    .rename_i hc;injection he with he;injection he with g h2;subst g;subst h2;refine⟨id,_,by rw[hx];rfl,rfl,⟨_,hm⟩,λs' ht c i=>?_⟩;have ex:s'.ev x=s.ev x:=Ca (λt h=>ht t E?);have f:s'.ev y=s.ev y:=Ca (λt h=>ht t E?);simp only[fa,ex,hx,c,hm,f,LN i,hr]
     simp_all
    simp_all
   simp_all
  simp_all
 simp_all
theorem BR{i:I}{m1:List Ent}(ht:i.tgt=M x) (hb:Ph s i=a38) (he:fa s i=M (d,m1)) :
 ∃id e,df (s.ev x)=M id/\m1=s.m.set id e/\(∃e0,s.m[id]?=M e0)/\
  (∀s':St,(∀t∈i.reads,s'.t.getD t d!=s.t.getD t d!)->s'.m[id]?=s.m[id]?->(∀y,i.src=M y->∀a,df (s.ev y)=M a->s'.m[a]?=s.m[a]?)->fa s' i=M (d,s'.m.set id e)):=by
 rcases(bN ht).2 with⟨n,y,rfl⟩|⟨S,lo,hi,rfl⟩|⟨S,b,y,rfl⟩
 .grind[fZ]
 .grind[gZ]
 .obtain⟨id,e,c,h2,f,g⟩:=iZ hb he;exact⟨id,e,c,h2,f,λs' h j k3=>g s' h j (k3 y rfl)⟩
theorem xT{i:I}{m1:List Ent}(f:i.src=M y) (he:fa s i=M (d,m1)) (h:df (s.ev y)=M id):∃e,s.m[id]?=M e:=by
 obtain⟨S,b,x,rfl⟩:∃S b x,i=.append S b x y:=by cases i<;>simp[I.src]at f;simp_all
 simp only[fa]at he;split at he
 .rename_i r hr
  cases g:s.ev y with
  |own a b=>grind[df,h!]
  |view a b c e=>grind[df,h!]
  |ref a b c e=>grind[h!]
  |mp a=>grind[h!]
  |_=>rw[g]at h;simp[df]at h
 simp_all
theorem aa2{i:I}(ht:i.tgt=M x):∀t∈Hg x,t∈i.reads:=by
 rcases(bN ht).2 with⟨n,y,rfl⟩|⟨S,lo,hi,rfl⟩|⟨S,b,y,rfl⟩<;>intro t h<;>simp[I.reads,h]
theorem X0{i:I}(ht:i.tgt=M x):i.at?=s5:=by
 rcases(bN ht).2 with⟨n,y,rfl⟩|⟨S,lo,hi,rfl⟩|⟨S,b,y,rfl⟩<;>rfl
theorem wL{i:I}(hc:i.cls=2) (ht:∀t∈i.reads,s'.t.getD t d!=s.t.getD t d!) (hm:s'.m.length=s.m.length) {m1:List Ent}(he:fa s i=M (d,m1)) :
 ∃e,m1=s.m++[e]/\fa s' i=M (d,s'.m++[e]):=by
 cases i with
 |alloc S z=>
  simp only[fa,T',H!]at he⊢
  simp_all
 |box S x=>
  simp only[fa]at he⊢;rw[Ca (s:=s) (s':=s') (x:=x) (λt h=>ht t E?)]
  simp_all
 |bslice S n z ps=>
  grind[fa,I.reads,Rx,A']
 |mkslice S b z l c=>
  simp only[fa]at he⊢;rw[Ca (s:=s) (s':=s') (x:=l) (λt h=>ht t E?),Ca (s:=s) (s':=s') (x:=c) (λt h=>ht t E?)]
  grind
 |mkmap=>
  simp only[fa,T',H!]at he⊢
  simp_all
 |_=>simp[I.cls]at hc
mutual
def Uq:D->List Nat
 |.agg l=>cp l
 |.tup l=>cp l
 |.sl _ l=>cp l
 |.pt d=>Uq d
 |.fn _ a b=>cp a++cp b
 |.ifc _ d=>Uq d
 |.own id _=>[id]
 |.view id _ _ _=>[id]
 |.ref id _ _ _=>[id]
 |.mp id=>[id]
 |.v _=>[]
 |d!=>[]
def cp:List D->List Nat
 |[]=>[]
 |d::l=>Uq d++cp l
end
mutual
theorem HT:∀{d:D},xa d=a38->Uq d=[]
 |.v _,_=>rfl
 |.agg l,h=>by simp only[xa]at h;simp only[Uq,gA h]
 |.tup l,h=>by simp only[xa]at h;simp only[Uq,gA h]
 |.sl _ l,h=>by simp only[xa]at h;simp only[Uq,gA h]
 |.pt d,h=>by simp only[xa]at h;simp only[Uq,HT h]
 |.fn _ a b,h=>by simp only[xa,E!]at h;simp only[Uq,gA h.1,gA h.2,X!]
 |.ifc _ d,h=>by simp only[xa]at h;simp only[Uq,HT h]
 |.own ..,h=>by grind[xa]
 |.view ..,h=>by grind[xa]
 |.ref ..,h=>by grind[xa]
 |.mp _,h=>by grind[xa]
 |d!,_=>rfl
theorem gA:∀{l:List D},oa l=a38->cp l=[]
 |[],_=>rfl
 |d::l,h=>by simp only[oa,E!]at h;simp only[cp,HT h.1,gA h.2,X!]
end
def bc(s:St):List a43->List Nat
 |[]=>[]
 |x::l=>Uq (s.ev x)++bc s l
theorem aL{s:St}:∀{l:List a43},bc s l=cp (l.map s.ev)
 |[]=>rfl
 |x::l=>by simp only[bc,D?,cp,aL (l:=l)]
mutual
theorem PM{G:Gh}{w:a42}{id:Nat}:∀{d:D}{u:a41},VRel G w d u->id∈Uq d->id<G.n
 |.v x,u,h,hi=>by grind[Uq]
 |.agg l,u,h,hi=>by
  simp only[VRel]at h;simp only[Uq]at hi;obtain⟨cs,rfl,h,-⟩:=h;exact fA h hi
 |.tup l,u,h,hi=>by
  simp only[VRel]at h;simp only[Uq]at hi;obtain⟨cs,rfl,h⟩:=h;exact fA h hi
 |.sl S l,u,h,hi=>by
  simp only[VRel]at h;simp only[Uq]at hi;obtain⟨a,n,c,rfl,-,-,h|⟨b,off,rfl,-,h⟩⟩:=h
  .grind[cp]
  .exact ER h hi
 |.pt d,u,h,hi=>by
  simp only[VRel]at h;simp only[Uq]at hi;obtain⟨b,off,x,rfl,-,h,-⟩:=h;exact PM h hi
 |.ref a b c e,u,h,hi=>by
  simp only[VRel]at h;grind[Uq]
 |.own a b,u,h,hi=>by
  simp only[VRel]at h;grind[Uq]
 |.view a b c e,u,h,hi=>by
  simp only[VRel]at h;grind[Uq]
 |.fn f a b,u,h,hi=>by
  simp only[VRel]at h;simp only[Uq,Z?]at hi;obtain⟨fs,cs,rfl,g,h2⟩:=h;rcases hi with hi|hi
  .exact fA g hi
  .exact fA h2 hi
 |.mp a,u,h,hi=>by
  simp only[VRel]at h;grind[Uq]
 |.ifc t d,u,h,hi=>by
  simp only[VRel]at h;simp only[Uq]at hi;obtain⟨x,rfl,h⟩:=h;exact PM h hi
 |d!,u,h,hi=>by grind[Uq]
theorem fA{G:Gh}{w:a42}{id:Nat}:∀{l:List D}{us:List a41},VsRel G w l us->id∈cp l->id<G.n
 |[],us,h,hi=>by grind[cp]
 |d::l,us,h,hi=>by
  simp only[VsRel]at h;simp only[cp,Z?]at hi;obtain⟨u,r,rfl,a,h2⟩:=h;rcases hi with hi|hi
  .exact PM a hi
  .exact fA h2 hi
theorem ER{G:Gh}{w:a42}{id b S:Nat}:∀{l:List D}{off:Nat},Xa G w b S l off->id∈cp l->id<G.n
 |[],off,h,hi=>by grind[cp]
 |d::l,off,h,hi=>by
  simp only[Xa]at h;simp only[cp,Z?]at hi;obtain⟨⟨u,a,-⟩,h2⟩:=h;rcases hi with hi|hi
  .exact PM a hi
  .exact ER h2 hi
end
def pz(s:St):List a43->List Nat
 |[]=>[]
 |x::l=>match df (s.ev x)with|some id=>id::pz s l|none=>pz s l
def mr(s:St):RI->List Nat
 |.op _ _ i=>
  match i.at? with
  |some x=>pz s [x]
  |none=>match i.tgt with|some x=>pz s (x::i.src.toList)|none=>[]
 |.call _ _ _ args=>bc s args
theorem Z5{l:List a43}(h:df (s.ev x)=M id):id∈pz s (x::l):=by grind[pz]
theorem ay9{l:List a43}(h:id∈pz s l):id∈pz s (x::l):=by grind[pz]
theorem IX(h:df (s.ev x)=M id):id∈pz s [x]:=by grind[pz]
abbrev Os:=List (D×List Ent×Option (Nat×Ent))
def os0:D×List Ent×Option (Nat×Ent):=(d!,[],s5)
def O5:RI:=.op s5 s5 (.mv (.const undef))
def dC(P:a44) (r:RI) (s:St) (d:D) (x:List Ent) (w:Option (Nat×Ent)):Prop:=
 match r with
 |.op _ g i=>((j! s g=M s5\/∃c,j! s g=M (M (c,c)))/\
  ((w=s5/\i.cls<=2/\fa s i=M (d,s.m++x))\/(x=[]/\∃a id e,i.tgt=M a/\df (s.ev a)=M id/\w=M (id,e)/\fa s i=M (d,s.m.set id e)/\id<s.m.length/\Ph s i=a38)))\/
  ((∃c b,j! s g=M (M (c,b))/\c≠b)/\d=.v undef/\x=[]/\w=s5)
 |.call _ g f args=>x=[]/\w=s5/\
  ((∃k first caps,s.cv f=.fn k first caps/\(j! s g=M s5\/∃c,j! s g=M (M (c,c)))/\(∀id∈bc s args,id<s.m.length)/\∀m,(∀id∈bc s args,m[id]?=s.m[id]?)->CallT P k (first++args.map s.ev++caps) m λd' m'=>d'=d/\m'=m)\/((∃c b,j! s g=M (M (c,b))/\c≠b)/\d=.v undef))
def wr(m:List Ent) (w:Option (Nat×Ent)):List Ent:=match w with|some (id,e)=>m.set id e|none=>m
def rp(s:St) (r:RI) (d:D) (x:List Ent) (w:Option (Nat×Ent)):St:=({ s with m:=wr s.m w++x }:St).put r.dst d
theorem xN(s:St) (r:RI) (d:D) (x:List Ent) (w:Option (Nat×Ent)):rp s r d x w=⟨(match r.dst with|some y=>s.t.set y d|none=>s.t),wr s.m w++x⟩:=by
 grind[rp,St.put]
section
variable {P:a44}
def P7(rl:List RI) (i:Nat):Option Tmp:=(rl.getD i O5).dst
def ddC(os:Os) (i:Nat):D:=(os.getD i os0).1
def kQ(os:Os) (i:Nat):List Ent:=(os.getD i os0).2.1
def z6(os:Os) (i:Nat):Option (Nat×Ent):=(os.getD i os0).2.2
def Rs(rl:List RI) (os:Os) (s:St) (L:Nat->Bool) (n:Nat):St:=
 ⟨tS (P7 rl) (ddC os) L s.t n,sS (z6 os) L (mS (kQ os) L s.m n) n⟩
theorem dC.lt{x:List Ent}{w:Option (Nat×Ent)}(h:dC P r s d x w) (hw:w=M (id,e)):id<s.m.length/\x=[]/\id∈mr s r:=by
 subst hw
 cases r with
 |call dst g f args=>obtain⟨_,h,_⟩:=h;cases h
 |op dst g i=>
  rcases h with⟨_,⟨h,_⟩|⟨hx,a,id',e',ht,h1,h2,h3,h4,_⟩⟩|⟨_,_,_,h⟩
  all_goals grind[mr,X0,Z5]
theorem YZ{G:Gh}{w:a42}(hr:o? G w a s) (h:df (s.ev x)=M id):id<s.m.length:=by
 have hv:=hr.ev x;have hn:=hr.inv.n;generalize s.ev x=d at *;cases d<;>simp only[df,reduceCtorEq,T']at h
 .subst h;simp only[VRel]at hv;omega
 .subst h;simp only[VRel]at hv;omega
 .subst h;simp only[VRel]at hv;omega
 .subst h;simp only[VRel]at hv;omega
theorem aN3(hc:Zt P ops o=M r) {x:List Ent}{H:Option (Nat×Ent)}(hf:dC P r sc d x H) (ht:∀t∈r.reads,s.t.getD t d!=sc.t.getD t d!)
 (hm:r.cls=2->s.m.length=sc.m.length) (j8:∀(id:Nat),id∈mr sc r->(∃e,sc.m[id]?=M e)->id<s.m.length->s.m[id]?=sc.m[id]?)
 {G:Gh} {w:a42} (hr:o? G w a s) (hi:ops[i]?=M o) {Q:Exit->Act->a42->Prop} {K:Act->a42->Prop}
 (Z:∀G' w' a',o? G' w' a' (rp s r d x H)->Step G w s.m G' w' (wr s.m H++x)->(∀id e,H=M (id,e)->id<s.m.length)->K a' w'):wpOp P ops Q i K a w:=by
 have O:=rD hc;unfold wpOp;simp only[hi];unfold Zt at hc;split at hc
 .grind
 .rename_i g hg;obtain⟨hgate1,hgate2⟩:=Qr hr hg;have hgt:j! s g=j! sc g:=rO (λt h=>ht t (by
   split at hc
   .grind[RI.reads]
   .simp only[A']at hc;obtain⟨i,-,rfl⟩:=hc
    grind[RI.reads]))
  have Y:(j! sc g=M s5\/∃c,j! sc g=M (M (c,c)))->Region.wanted o (yielded ops a.tmps)=a38:=by
   grind
  have woff:(∃c b,j! sc g=M (M (c,b))/\c≠b)->Region.wanted o (yielded ops a.tmps)=a39:=by
   grind
  have skip:d=.v undef->x=[]->H=s5->K (a.put o.dst undef) w:=by
   rintro rfl rfl rfl;refine Z G w _ ?_ (by rw[X!];exact Step.refl _ _ _) (λ_ _ h=>by cases h);unfold rp;rw[O,X!];exact oJ hr o.dst
  split at hc
  .rename_i f args ho;injection hc with hc;subst hc;obtain⟨rfl,rfl,hf⟩:=hf;have l:args.map s.ev=args.map sc.ev:=F? (λt h=>ht t (by grind[RI.reads]));rcases hf with⟨k,first,caps,hfe,E,S,C⟩|⟨V,hd⟩
   .have R:s.cv f=.fn k first caps:=by grind[RI.reads,MN]
    rw[J (Y E)];refine .inl ?_;obtain⟨⟨fn,e1,e2,e3⟩,N⟩:=C s.m λid q=>by
     refine j8 id q ⟨_,n! (S id q)⟩ ?_;rw[aL,←l]at q;rw[←hr.inv.n];exact fA (OF hr _) q
    obtain⟨fs,cs,W,hv1,hv2⟩:=GF hr ho (as1 R) e1 e2 e3;rw[←l]at N;have z:=N G w (fs++args.map a.eval++cs) ((hv1.append (OF hr _)).append hv2) hr.inv;unfold Oper.wp;rw[W,Oper.upon_enter];refine z.mono ?_;rintro e w' ⟨v,d',m',G',rfl,⟨rfl,rfl⟩,hvd,hi',A⟩;refine Z G' w' _ ?_ (by rw[X!];exact A) (λ_ _ h=>by cases h);unfold rp;rw[X!];exact(hr.step A.le hi').put o.dst hvd
   simp_all
  .rename_i hno;simp only[A']at hc;obtain⟨j,hj,rfl⟩:=hc;rcases hf with⟨E,p⟩|⟨V,hd,hx,hw⟩
   .rw[J (Y E)];refine .inl ?_;have F:∀t∈j.reads,s.t.getD t d!=sc.t.getD t d!:=λt h=>ht t (by grind[RI.reads]);have j6:∀y,(∀t∈Hg y,t∈j.reads)->s.ev y=sc.ev y:=λy L=>Ca (λt h=>F t (L t h));have B:fa s j=M (d,wr s.m H++x)/\(∀id e,H=M (id,e)->id<s.m.length):=by
     simp only[RI.cls]at hm;rcases p with⟨rfl,hcls,p⟩|⟨rfl,a1,id,e,htg,X,rfl,p,hlt,hsb⟩
     .refine⟨?_,λ_ _ h=>by cases h⟩;simp only[wr];by_cases h2:j.cls=2
      .grind[wL,List.append_cancel_left]
      .have j9:j.cls<=1:=U
       obtain⟨hxm,hres⟩:=qv (s:=sc) (s':=s) j9 F (λy id L q=>by
        have hevy:s.ev y=sc.ev y:=j6 y (λt h=>by
         cases j<;>simp only[I.at?,reduceCtorEq,T']at L<;>subst L<;>simp[I.reads,h])
        grind[mr,IX,vL,YZ]) p
       simp_all
     .obtain⟨id',e',j9,h2,h3,h4⟩:=BR htg hsb p;rw[X]at j9;injection j9 with j9;subst j9;have T:id<s.m.length:=YZ hr (x:=a1) (by grind[aa2]);have hee:e=e':=by
       have:=congrArg (λm=>m[id]?) h2
       grind
      subst hee;refine⟨?_,λid2 e2 h=>l5⟩;rw[X!];refine h4 s F (j8 id (by grind[mr,X0,Z5]) h3 T) λy L id' hid'=>?_;have hey:s.ev y=sc.ev y:=j6 y (by
       cases j<;>simp[I.src]at L
       grind[I.reads])
      grind[mr,X0,ay9,IX,YZ,xT]
    exact hr.wx (IF hj hr B.1) λG' w' u hr' A=>Z G' w' _ hr' A B.2
   simp_all
end
def RI.sM(y:RI):Bool:=
 match y with
 |.op _ _ i=>s6 (i.cls<=2) || i.tgt.isSome
 |.call ..=>a38
section
variable {P:a44} {ops:Array Oper} {Q:Exit->Act->a42->Prop} {K:St->Prop} {rl:List RI} {q:Nat} {ps:List (List Nat)}
end
def yW:Nat->Nat->Bool
 |0,0=>a39
 |0,_+1=>a38
 |_+1,0=>a38
 |a+1,b+1=>yW a b
theorem al3:∀{a b:Nat},yW a b=a38->a≠b
 |0,0,h=>by grind[yW]
 |0,_+1,_=>U
 |_+1,0,_=>U
 |a+1,b+1,h=>by have:=al3 (a:=a) (b:=b) h;omega
def zE(a:Nat):List Nat->Bool
 |[]=>a38
 |b::l=>yW a b&&zE a l
def Kv:List Nat->List Nat->Bool
 |[],_=>a38
 |a::l,r=>zE a r&&Kv l r
theorem iR{a b:Nat}:∀{l:List Nat},zE a l=a38->b∈l->a≠b
 |[],_,h=>by cases h
 |c::l,h,hm=>by
  simp only[zE,E!]at h;rcases Z'.1 hm with rfl|hm
  .grind[al3]
  .exact iR h.2 hm
theorem jR{a:Nat}:∀{l r:List Nat},Kv l r=a38->a∈l->a∉r
 |[],_,_,h=>by cases h
 |c::l,r,h,hm=>by
  simp only[Kv,E!]at h;rcases Z'.1 hm with rfl|hm
  .exact λhr=>iR h.1 hr rfl
  .exact jR h.2 hm
def ZH(fp:List (List Nat)) (f:List Nat):List Nat->Bool
 |[]=>a38
 |i::l=>Kv (fp.getD i []) f&&ZH fp f l
theorem HM{fp:List (List Nat)}{f:List Nat}{k:Nat}:∀{l:List Nat},ZH fp f l=a38->k∈l->Kv (fp.getD k []) f=a38
 |[],_,h=>by cases h
 |z::l,h,hm=>by
  simp only[ZH,E!]at h;rcases Z'.1 hm with rfl|hm
  .grind
  .exact HM h.2 hm
def dE(P:a44):List (List Nat)->List (List Nat)->Nat->List RI->(St->Prop)->St->Prop
 |_,_,0,l,K,s=>ln P l K s
 |_,_,_+1,[],_,_=>False
 |ps,fp,q+1,.op dst g i::l,K,s=>
  ZH fp (mr s (.op dst g i)) (ps.headD [])=a38/\
  match j! s g with
  |none=>False
  |some s5=>∃d m',Ph s i=a38/\fa s i=M (d,m')/\dE P ps.tail (fp++[mr s (.op dst g i)]) q l K ({ s with m:=m' }.put dst d)
  |some (M (c,b))=>(c=b->∃d m',Ph s i=a38/\fa s i=M (d,m')/\dE P ps.tail (fp++[mr s (.op dst g i)]) q l K ({ s with m:=m' }.put dst d))/\(c≠b->dE P ps.tail (fp++[mr s (.op dst g i)]) q l K (s.put dst (.v undef)))
 |ps,fp,q+1,.call dst g f args::l,K,s=>
  match s.cv f with
  |.fn k first caps=>
   match j! s g with
   |none=>False
   |some s5=>ZH fp (bc s args) (ps.headD [])=a38/\∃d,((∀id∈bc s args,id<s.m.length)/\∀m,(∀id∈bc s args,m[id]?=s.m[id]?)->CallT P k (first++args.map s.ev++caps) m λd' m'=>d'=d/\m'=m)/\dE P ps.tail (fp++[bc s args]) q l K (s.put dst d)
   |some (M (c,b))=>ZH fp (bc s args) (ps.headD [])=a38/\(c=b->∃d,((∀id∈bc s args,id<s.m.length)/\∀m,(∀id∈bc s args,m[id]?=s.m[id]?)->CallT P k (first++args.map s.ev++caps) m λd' m'=>d'=d/\m'=m)/\dE P ps.tail (fp++[bc s args]) q l K (s.put dst d))/\(c≠b->dE P ps.tail (fp++[bc s args]) q l K (s.put dst (.v undef)))
  |_=>False
section
variable {P:a44} {K:St->Prop}
end
section
variable {P:a44} {N:Nat} {ops:Array Oper} {Q:Exit->Act->a42->Prop} {K:St->Prop} {rl:List RI} {q:Nat} {ps:List (List Nat)}
end
open Go.RowKit (Below)
theorem mK{G:Gh}{w:a42}{m:List Ent}(hi:Inv G w m) (hm:m[p]?=M (l! S Va [])) (l:List D) (C:Nat) (cs:Array a41) (T:TypeId)
 (hr:Vi G w S l cs) (hC:l.length<=C) (hcs:C*S<=cs.size) :
 Inv (G.vh p (M w.heap.size) (Va+1) l.length (C,0)) (w.alloc (.cells cs T)) (m.set p (l! S (Va+1) l))/\
  Step G w m (G.vh p (M w.heap.size) (Va+1) l.length (C,0)) (w.alloc (.cells cs T)) (m.set p (l! S (Va+1) l)):=by
 have a:∀k,k<w.heap.size->(w.alloc (.cells cs T)).heap[k]?=w.heap[k]?:=λk hk=>Below.heap_alloc _ _ _ hk;obtain⟨hV,hS,-⟩:=hi.ent p _ hm;refine ti hi hm rfl rfl _ _ _ _ (.inl U) rfl rfl rfl o0 (λk hk _=>a k hk) (λk h=>l5) ?_;have c:Le G w (G.vh p (M w.heap.size) (Va+1) l.length (C,0)) (w.alloc (.cells cs T)):=by
  refine⟨λ_ h=>h,λk hk=>a k (hi.F k hk),x? _,λi _=>?_⟩
  grind[Gh.vh]
 have b:(w.alloc (.cells cs T)).heap[w.heap.size]?=M (.cells cs T (0,0)):=by
  show(w.heap.push (.cells cs T))[w.heap.size]?=_;simp
 refine⟨by simp[Gh.vh],by grind[Gh.vh],by simp[Gh.vh],by grind[Gh.vh],.inr ⟨w.heap.size,cs,T,by simp[Gh.vh],λh=>?_,b,by grind[Gh.vh],by simpa [Gh.vh] using Ro b (hr.mono c)⟩⟩;have:=hi.F _ h;omega
def Pr(s:St) (p:Nat):I->Option (D×Ent)
 |.alloc S z=>match s.m[p]? with
  |some (l! S' Va [])=>if S'=S then M (.ref p (Va+1) 0 0,l! S (Va+1) [z])else s5
  |_=>s5
 |.box S x=>match s.m[p]? with
  |some (l! S' Va [])=>if S'=S/\(s.ev x).ok=a38/\(s.ev x).cells.length=S then M (.ref p (Va+1) 0 0,l! S (Va+1) [s.ev x])else s5
  |_=>s5
 |.bslice S n z ps=>match s.m[p]? with
  |some (l! S' Va [])=>if S'=S then(pd s S ps (k? n z)).map λl=>(.own p (Va+1),l! S (Va+1) l)else s5
  |_=>s5
 |_=>s5
section
variable {P:a44} {G:Gh} {w:a42} {a:Act} {s:St} {d:D} {e:Ent} {p:Nat}
theorem XW{w':a42}{C N:Nat}(hp:p<G.n):VRel (G.vh p (M b) (Va+1) N (C,0)) w' (.ref p (Va+1) 0 0) (.pointer (M ⟨b,0,s5⟩)):=by
 simp only[VRel];exact⟨_,rfl,by grind[Gh.vh],by simp[Gh.vh],λ_=>⟨b,by simp[Gh.vh],by simp[Gh.vh]⟩⟩
theorem aj8{w':a42}{C N:Nat}(hp:p<G.n):VRel (G.vh p (M b) (Va+1) N (C,0)) w' (.own p (Va+1)) (.slice (M ⟨b,0,s5⟩) N C):=by
 simp only[VRel];exact⟨_,_,_,rfl,by grind[Gh.vh],by simp[Gh.vh],λ_=>⟨by simp[Gh.vh],by simp[Gh.vh],by simp[Gh.vh]⟩⟩
theorem aN5(hr:o? G w a s) (ho:o.op=.alloc t) (f:q? P t=M z) (he:Pr s p (.alloc z.cells.size (z? z))=M (d,e)) :
 p? G w s.m ((execOp a.eval o).run P w) d (s.m.set p e):=by
 simp only[Pr]at he;split at he
 .rename_i S' Va hm;split at he
  .rename_i hS;subst hS;injection he with he;injection he with c h2;subst c;subst h2;obtain⟨hz1,b,hz3,-⟩:=Iq f w;obtain⟨g1,g2⟩:=mK hr.inv hm [z? z] 1 z.cells t (kG (GC z b) rfl (IS b)) o0 o0;refine⟨_,_,_,?_,.inl ⟨_,rfl,XW (C:=1) (N:=1) (by rw[hr.inv.n];grind)⟩,g1,g2⟩
   simp_all[execOp,Instr.alloc,newVar,newRow]
  simp_all
 simp_all
theorem cm0(hr:o? G w a s) (ho:o.op=.box t x) (he:Pr s p (.box S x)=M (d,e)) :
 p? G w s.m ((execOp a.eval o).run P w) d (s.m.set p e):=by
 simp only[Pr]at he;split at he
 .rename_i S' Va hm;split at he
  .rename_i hc;obtain⟨rfl,f,hlen⟩:=hc;injection he with he;injection he with b h2;subst b;subst h2;have hx:=hr.ev x;obtain⟨hv,b⟩:=hx.cells f;have g:(a.eval x).cells.size=S':=by rw[←Iac,hv.length];omega
   obtain⟨g1,g2⟩:=mK hr.inv hm [s.ev x] 1 (a.eval x).cells t (kG hx g (λj c hj=>b c o4)) o0 U;refine⟨_,_,_,?_,.inl ⟨_,rfl,XW (C:=1) (N:=1) (by rw[hr.inv.n];grind)⟩,g1,g2⟩
   simp_all[execOp,Instr.box,newVar,newRow]
  simp_all
 simp_all
theorem ap8(hr:o? G w a s) {e':TypeId}{ps:Array (Nat×a43)}(ho:o.op=.buildSlice t n ps)
 (ht:P.underlying t=M (.slice e')) (y:q? P e'=M z) (hsmall:n*z.cells.size<=2 ^ 24) (he:Pr s p (.bslice z.cells.size n (z? z) ps.toList)=M (d,e)) :
 p? G w s.m ((execOp a.eval o).run P w) d (s.m.set p e):=by
 simp only[Pr]at he;split at he
 .rename_i S' Va hm;split at he
  .rename_i hS;subst hS;simp only[A',H!]at he;obtain⟨l,hb,rfl,rfl⟩:=he;obtain⟨u,v,hz3,i,hi,c,hzz⟩:=Iq y w;obtain⟨cells,hf,g,hcs,b⟩:=DT hr hb (Uy v n) o0;simp only[List.length_replicate]at b;obtain⟨g1,g2⟩:=mK hr.inv hm l n cells e' g U l5;refine⟨_,_,_,?_,.inl ⟨_,rfl,aj8 (N:=l.length) (C:=n) (by rw[hr.inv.n];grind)⟩,g1,g2⟩;unfold execOp;simp only[ho];have q:¬(2 ^ 24<n*i.size):=l5
   by_cases x:n*i.size=0
   .have j:n=0:=by
     grind[Nat.mul_eq_zero]
    subst j;rw[c.symm]at hf;rw[Nat.zero_mul,show gae 0 = #[]from rfl,Array.map_empty]at hf;have h:Instr.fill (λk=>M (k*i.size,i.size)) #[] (ps.toList.map λp=>(p.1,a.eval p.2))=M cells:=hf;have r:∀f:Nat->a41,Array.map f (gae 0) = #[]:=λf=>o0
    simp[Instr.buildSlice,run_underlying ht,Ye hi,r,h,newRow,b]
   .rw[c.symm]at hf;simp[Instr.buildSlice,run_underlying ht,Ye hi,q,x,u,hf,newRow,b,c.symm]
  simp_all
 simp_all
theorem Q0{i:I}(hc:ax P ops o o.op=M i) (hr:o? G w a s) (he:Pr s p i=M (d,e)):p? G w s.m ((execOp a.eval o).run P w) d (s.m.set p e):=by
 cases i with
 |alloc S z=>
  obtain⟨t,b,ho,f,rfl,rfl⟩:∃t b,o.op=.alloc t/\q? P t=M b/\b.cells.size=S/\z? b=z:=by
   unfold ax at hc;split at hc
   .grind[oG,A']
   .unfold oL at hc
    repeat' split at hc
    all_goals first
     |cases hc
     |(
      simp only[A']at hc;obtain⟨b,f,h⟩:=hc
      first|cases h|skip)
    simp_all
  grind[aN5]
 |box S x=>
  obtain⟨t,ho⟩:∃t,o.op=.box t x:=by
   unfold ax at hc;split at hc
   .grind[oG,A']
   .unfold oL at hc
    grind[A']
  grind[cm0]
 |bslice S n z ps=>
  obtain⟨t,e',c,b,ho,ht,f,hsmall,rfl,rfl,rfl⟩:∃t e' c b,o.op=.buildSlice t n c/\P.underlying t=M (.slice e')/\q? P e'=M b/\n*b.cells.size<=2 ^ 24/\b.cells.size=S/\z? b=z/\c.toList=ps:=by
   unfold ax at hc;split at hc
   .grind[oG,A']
   .unfold oL at hc
    repeat' split at hc
    all_goals first
     |(cases hc;exact⟨_,_,_,_,U,U,U,U,rfl,rfl,rfl⟩)
     |cases hc
     |(
      simp only[A']at hc;obtain⟨b,f,h⟩:=hc;cases h)
  grind[ap8]
 |_=>simp[Pr]at he
end
theorem PV{i:I}(ht:∀t∈i.reads,s'.t.getD t d!=s.t.getD t d!) (hm:s'.m[p]?=s.m[p]?):Pr s' p i=Pr s p i:=by
 cases i with
 |alloc S z=>grind[Pr]
 |box S x=>
  grind[I.reads,Pr,Ca]
 |bslice S n z ps=>
  grind[I.reads,Pr,Rx]
 |_=>rfl
theorem OV{i:I}(h:Pr s p i=M (d,e)):p<s.m.length:=by
 rcases Κ p s.m.length with a|a
 .omega
 .have hn:=List.getElem?_eq_none a;cases i<;>simp[Pr,hn]at h
def DF:Option Nat->St->RI->List Nat
 |some p,_,.op ..=>[p]
 |some _,s,.call _ _ _ args=>bc s args
 |none,s,r=>mr s r
def Ar(P:a44) (o:Option Nat) (r:RI) (s:St) (d:D) (x:List Ent) (w:Option (Nat×Ent)):Prop:=
 match o with
 |none=>dC P r s d x w
 |some p=>(∃dst i e,r=.op dst s5 i/\x=[]/\w=M (p,e)/\Pr s p i=M (d,e))\/
  (∃dst f args k first caps e,r=.call dst s5 f args/\x=[]/\w=M (p,e)/\s.cv f=.fn k first caps/\p∈bc s args/\(∀id∈bc s args,id<s.m.length)/\
   ∀m,(∀id∈bc s args,m[id]?=s.m[id]?)->CallT P k (first++args.map s.ev++caps) m λd' m'=>d'=d/\m'=m.set p e)
def pO(pl:List (Option Nat)) (i:Nat):Option Nat:=pl.getD i s5
theorem S4{pl:List (Option Nat)}:(pl.drop k).headD s5=pO pl k:=by
 simp_all[pO]
theorem tail_drop{pl:List (Option Nat)}:(pl.drop k).tail=pl.drop (k+1):=o0
theorem aV6{xx:Nat->List Ent}{L:Nat->Bool}(m:List Ent):∀n,m.length<=(mS xx L m n).length
 |0=>x? _
 |n+1=>by
  have:=aV6 (xx:=xx) (L:=L) m n
  grind[mS]
def tE(P:a44):List (Option Nat)->List RI->St->Os->List (List Nat)->St->Prop
 |_,[],s,os,rs,s'=>os=[]/\rs=[]/\s'=s
 |pl,r::l,s,os,rs,s'=>∃d x w os' a,os=(d,x,w)::os'/\rs=DF (pl.headD s5) s r::a/\Ar P (pl.headD s5) r s d x w/\tE P pl.tail l (rp s r d x w) os' a s'
section
variable {P:a44}
theorem tE.length:∀{l:List RI}{pl:List (Option Nat)}{s s':St}{os:Os}{rs:List (List Nat)},tE P pl l s os rs s'->os.length=l.length
 |[],pl,s,s',os,rs,h=>by simp[h.1]
 |r::l,pl,s,s',os,rs,h=>by
  obtain⟨d,x,w,os',rs',rfl,rfl,_,h⟩:=h;simp[tE.length h]
theorem Ar.lt{o:Option Nat}{r:RI}{s:St}{d:D}{x:List Ent}{w:Option (Nat×Ent)}(h:Ar P o r s d x w) {id:Nat}{e:Ent}(hw:w=M (id,e)):id<s.m.length/\x=[]/\id∈DF o s r:=by
 cases o with
 |none=>exact dC.lt h hw
 |some p=>
  rcases h with⟨dst,i,e',rfl,hx,a,hf⟩|⟨dst,f,args,k,first,caps,e',rfl,hx,a,hf,c,hl,_⟩
  .rw[a]at hw;injection hw with hw;injection hw with b h2;subst b;exact⟨OV hf,hx,by simp[DF]⟩
  .rw[a]at hw;injection hw with hw;injection hw with b h2;subst b;exact⟨hl _ c,hx,c⟩
theorem tE.get{pl:List (Option Nat)}{rl:List RI}{os:Os}{s0:St}:∀{l:List RI}{k:Nat}{s':St}{os':Os}{rs:List (List Nat)},l=(rl.drop k).take l.length->os'=(os.drop k).take os'.length->
 (∀j,j<k->∀id e,z6 os j=M (id,e)->id<(mS (kQ os) (λ_=>a38) s0.m k).length)->tE P (pl.drop k) l (Rs rl os s0 (λ_=>a38) k) os' rs s'->
 (∀i,i<l.length->Ar P (pO pl (k+i)) (rl.getD (k+i) O5) (Rs rl os s0 (λ_=>a38) (k+i)) (ddC os (k+i)) (kQ os (k+i)) (z6 os (k+i))/\rs.getD i []=DF (pO pl (k+i)) (Rs rl os s0 (λ_=>a38) (k+i)) (rl.getD (k+i) O5))/\s'=Rs rl os s0 (λ_=>a38) (k+l.length)
 |[],k,s',os',rs,_,_,_,h=>⟨λi hi=>o4,by simpa using h.2.2⟩
 |r::l,k,s',os',rs,q,h2,hv,h=>by
  obtain⟨d,x,w,a,rs',rfl,rfl,n,h⟩:=h;rw[S4]at n;rw[tail_drop]at h;have hr:rl[k]?=M r:=by
   have:=congrArg (λl=>l[0]?) q
   grind
  have ho:os[k]?=M (d,x,w):=by
   have:=congrArg (λl=>l[0]?) h2
   grind
  have g:rl.getD k O5=r:=l5
  have ho':os.getD k os0=(d,x,w):=l5
  have hd:ddC os k=d:=by grind[ddC]
  have hx:kQ os k=x:=by grind[kQ]
  have hw:z6 os k=w:=by grind[z6]
  have hds:P7 rl k=r.dst:=by grind[P7]
  have c:mS (kQ os) (λ_=>a38) s0.m (k+1)=mS (kQ os) (λ_=>a38) s0.m k++x:=by grind[mS]
  have b:rp (Rs rl os s0 (λ_=>a38) k) r d x w=Rs rl os s0 (λ_=>a38) (k+1):=by
   rw[xN];simp only[Rs,tS,D1,St.mk.injEq];refine⟨o4,?_⟩;rw[c];simp only[sS,D1,hw];rw[J0 _ _ _ λj hj _ id e he=>hv j hj id e he]
   cases w with
   |none=>rfl
   |some p=>
    obtain⟨id,e⟩:=p;obtain⟨_,hx0,_⟩:=n.lt rfl
    grind[wr]
  have o:∀j,j<k+1->∀id e,z6 os j=M (id,e)->id<(mS (kQ os) (λ_=>a38) s0.m (k+1)).length:=by
   intro j hj id e he;rw[c,Τ];by_cases f:j=k
   .subst f;rw[hw]at he;have:=(n.lt he).1
    grind[Rs,Ot]
   .have:=hv j U id e he;omega
  rw[b]at h;have t1:l=(rl.drop (k+1)).take l.length:=by
   grind[lab]
  have t2:a=(os.drop (k+1)).take a.length:=by
   grind[lab]
  obtain⟨g1,g2⟩:=tE.get t1 t2 o h;refine⟨λi hi=>?_,o4⟩
  cases i with
  |zero=>simp only[Nat.add_zero,g,hd,hx,hw];grind[S4]
  |succ i=>
   have:=g1 i o4
   grind
theorem aN2(hc:Zt P ops o=M r) {x:List Ent}{O:Option (Nat×Ent)}{N:Option Nat}(hf:Ar P N r sc d x O) (ht:∀t∈r.reads,s.t.getD t d!=sc.t.getD t d!)
 (hm:N=s5->r.cls=2->s.m.length=sc.m.length) (j9:∀(id:Nat),id∈DF N sc r->(∃e,sc.m[id]?=M e)->id<s.m.length->s.m[id]?=sc.m[id]?) (B:∀p,N=M p->p<s.m.length)
 {G:Gh} {w:a42} (hr:o? G w a s) (hi:ops[i]?=M o) {Q:Exit->Act->a42->Prop} {K:Act->a42->Prop}
 (S:∀G' w' a',o? G' w' a' (rp s r d x O)->Step G w s.m G' w' (wr s.m O++x)->(∀id e,O=M (id,e)->id<s.m.length)->K a' w'):wpOp P ops Q i K a w:=by
 cases N with
 |none=>exact aN3 hc hf ht (hm rfl) j9 hr hi S
 |some p=>
  rcases hf with⟨dst,j,e,rfl,rfl,rfl,E⟩|⟨dst,f,args,k,first,caps,e,rfl,rfl,rfl,hfe,hpt,I,C⟩
  rotate_left
  .have A:=rD hc;have hp:=B p rfl;unfold wpOp;simp only[hi];unfold Zt at hc;split at hc
   .grind
   .rename_i g T;split at hc
    .rename_i Y args' ho;injection hc with hc;injection hc with Z h2 R h4;subst h2;subst R;subst h4;obtain⟨b,y⟩:=Qr hr T;rw[J (b rfl o rfl)];refine .inl ?_;have H:s.cv Y=.fn k first caps:=by grind[RI.reads,MN]
     have c:args'.map s.ev=args'.map sc.ev:=F? (λt h=>ht t (by grind[RI.reads]));obtain⟨⟨fn,e1,e2,e3⟩,F⟩:=C s.m λid z=>by
      refine j9 id z ⟨_,n! (I id z)⟩ ?_;rw[aL,←c]at z;rw[←hr.inv.n];exact fA (OF hr _) z
     obtain⟨fs,cs,L,V,W⟩:=GF hr ho (as1 H) e1 e2 e3;rw[←c]at F;have l:=F G w (fs++args'.map a.eval++cs) ((V.append (OF hr _)).append W) hr.inv;unfold Oper.wp;rw[L,Oper.upon_enter];refine l.mono ?_;rintro e0 w' ⟨v,d',m',G',rfl,⟨rfl,rfl⟩,X,j8,j6⟩;refine S G' w' _ ?_ (by grind[wr]) (λid e' h=>l5);unfold rp;rw[X!];rw[A];exact(hr.step j6.le j8).put o.dst X
    simp_all
  have A:=rD hc;have hp:=B p rfl;have hat:=OV E;have q:Pr s p j=M (d,e):=by
   grind[RI.reads,DF,PV]
  unfold wpOp;simp only[hi];unfold Zt at hc;split at hc
  .grind
  .rename_i g T;split at hc
   .simp_all
   .rename_i hno;simp only[A']at hc;obtain⟨j',hj,h⟩:=hc;injection h with Z h2 R;subst h2;subst R;obtain⟨b,y⟩:=Qr hr T;rw[J (b rfl o rfl)];refine .inl ?_;exact hr.wx (Q0 hj hr q) λG' w' u hr' j6=>S G' w' _ (by grind[rp,wr]) (by grind[wr]) (λid e' h=>l5)
end
def wB(o:Option Nat):RI->Bool
 |.op _ _ i=>o.isSome || i.tgt.isSome
 |.call ..=>o.isSome
def lB(o:Option Nat):RI->Bool
 |.op _ _ i=>o.isSome || i.tgt.isSome || i.at?.isSome
 |.call ..=>a38
def tC(o a:Option Nat) (x y:RI):Bool:=(wB o x&&lB a y) || (wB a y&&lB o x)
def IB(o a:Option Nat) (x y:RI):Bool:=
 (
  match x.dst with
  |some t=>y.reads.contains t || y.dst==M t
  |none=>a39) ||
 (
  match y.dst with
  |some t=>x.reads.contains t
  |none=>a39) ||
 (o.isNone&&a.isNone&&x.cls==2&&y.cls==2)
def iB(bs:List (List Nat)) (rl:List RI) (q:Nat) (ps:List (List Nat)) (pl:List (Option Nat)):Bool:=
 let ms:=VD bs
 (p! q).all λj=>match rl[j]? with
  |none=>a39
  |some y=>((pO pl j).isSome || y.sM)&&(p! j).all λi=>match rl[i]? with
   |none=>a39
   |some x=>(ms.getD j 0).testBit i || (!IB (pO pl i) (pO pl j) x y&&(!tC (pO pl i) (pO pl j) x y || (ps.getD j []).contains i))
structure P? (bs:List (List Nat)) (rl:List RI) (q:Nat) (ps:List (List Nat)) (pl:List (Option Nat)):Prop extends TailFacts bs rl q where
 sM:∀(j:Nat) y,j<q->rl[j]?=M y->((pO pl j).isSome || y.sM)=a38
 apart:∀(i j:Nat) x y,i<j->j<q->rl[i]?=M x->rl[j]?=M y->IB (pO pl i) (pO pl j) x y=a38->((VD bs).getD j 0).testBit i=a38
 pairs:∀(i j:Nat) x y,i<j->j<q->rl[i]?=M x->rl[j]?=M y->tC (pO pl i) (pO pl j) x y=a38->((VD bs).getD j 0).testBit i=a38\/i∈ps.getD j []
variable {pl:List (Option Nat)}
theorem wQ{bs:List (List Nat)}{rl:List RI}{q:Nat}{ps:List (List Nat)}(ht:TailFacts bs rl q) (h:iB bs rl q ps pl=a38):P? bs rl q ps pl:=by
 unfold iB at h;simp only[R',Eac]at h;refine⟨ht,?_,?_,?_⟩
 all_goals grind
section
variable {P:a44} {ops:Array Oper} {Q:Exit->Act->a42->Prop} {K:St->Prop} {rl:List RI} {q:Nat} {ps:List (List Nat)} {pl:List (Option Nat)}
theorem qS{o a:Option Nat}{x y:RI}(hx:id∈DF o s x) (hy:wB a y=a38):tC o a x y=a38:=by
 have h:lB o x=a38:=by
  cases o with
  |some p=>cases x<;>simp[lB]
  |none=>
   cases x with
   |call=>rfl
   |op d g i=>
    grind[DF,mr,lB]
 grind[tC]
theorem JY{o a:Option Nat}{x y:RI}:tC o a x y=tC a o y x:=by grind[tC]
theorem Ar.wB{o:Option Nat}{r:RI}{s:St}{d:D}{x:List Ent}{p:Nat×Ent}(h:Ar P o r s d x (M p)):Go.Tm.wB o r=a38:=by
 cases o with
 |some p=>cases r<;>rfl
 |none=>
  cases r with
  |call=>obtain⟨_,h,_⟩:=h;cases h
  |op d g i=>
   rcases h with⟨_,⟨h,_⟩|⟨_,a,_,_,h,_⟩⟩|⟨_,_,_,h⟩
   all_goals grind[Go.Tm.wB]
theorem NY(hc:Wi P ops ops.toList=M rl) (hf:P? (Pb ops) rl q ps pl) {os:Os}
 (I:∀i,i<q->Ar P (pO pl i) (rl.getD i O5) (Rs rl os s0 (λ_=>a38) i) (ddC os i) (kQ os i) (z6 os i))
 (hpl:∀i p,pO pl i=M p->p<s0.m.length)
 (B:∀i,i<q->kQ os i≠[]->(rl.getD i O5).cls=2/\pO pl i=s5)
 (hap:∀i j,i<j->j<q->i∈ps.getD j []->∀id,id∈DF (pO pl i) (Rs rl os s0 (λ_=>a38) i) (rl.getD i O5)->id∉DF (pO pl j) (Rs rl os s0 (λ_=>a38) j) (rl.getD j O5))
 (hT:ln P (rl.drop q) K (Rs rl os s0 (λ_=>a38) q)) :
 ∀(fuel:Nat) (listed:Array Bool) (G:Gh) (w:a42) (a:Act),((p! ops.size).filter λj=>!Me listed j).length<=fuel->listed.size=ops.size->Closed (Pb ops) (Me listed)->
  (∀j,q<=j->Me listed j=a39)->o? G w a (Rs rl os s0 (Me listed) q)->(∀j,j<q->Me listed j=a38->∀id e,z6 os j=M (id,e)->id<(mS (kQ os) (Me listed) s0.m q).length)->
  (∀s' G' w' a',K s'->o? G' w' a' s'->Step G w (Rs rl os s0 (Me listed) q).m G' w' s'.m->Q .normal a' w')->wpAny P .any ops Q fuel listed a w:=by
 obtain⟨Y,W⟩:=ZA hc;simp only[Iac]at Y;have hq:=hf.hq;have d:∀{L L':Nat->Bool},(∀j,j<q->L j=L' j)->Rs rl os s0 L q=Rs rl os s0 L' q:=by
  intro L L' h;have hs:∀(m:List Ent) n,n<=q->sS (z6 os) L m n=sS (z6 os) L' m n:=by
   intro m n
   induction n with
   |zero=>intro _;rfl
   |succ n ih=>grind[sS]
  simp only[Rs,St.mk.injEq];exact⟨QP _ _ λj hj=>h j hj,by rw[DO _ _ λj hj=>h j hj,hs _ _ (x? _)]⟩
 intro fuel
 induction fuel with
 |zero=>
  intro listed G w a o F H T j9 hV hQ;have V:∀i,i<ops.size->Me listed i=a38:=by
   simp_all
  have hqn:q=ops.size:=by
   rcases Κ q ops.size with h|h
   all_goals grind
  have E:Rs rl os s0 (Me listed) q=Rs rl os s0 (λ_=>a38) q:=d λj hj=>V j U;refine YF hc hf.toTailFacts 0 q 0 listed _ G w a U (x? _) (x? _) U F (λi=>?_) hT l5 o4
  grind
 |succ fuel ih=>
  intro listed G w a o F H T j9 hV hQ;by_cases b:∀j,j<q->Me listed j=a38
  .have E:Rs rl os s0 (Me listed) q=Rs rl os s0 (λ_=>a38) q:=d λj hj=>b j hj;have g:∀i,Me listed i=s6 (i<q):=λi=>by
    grind
   have hcnt:=O' q ops.size;simp only[g]at o;exact YF hc hf.toTailFacts (ops.size-q) q (fuel+1) listed _ G w a rfl U (x? _) U F g hT l5 o4
  .refine⟨λhno=>(b λj hj=>bF hf.toTailFacts F hno j U).elim,λi hi=>?_⟩;obtain⟨h1,h2,h3,h4,j8⟩:=rB hf.toTailFacts F H hi;have c:i<q:=by
    rcases Κ i q with h|h
    .exact h
    .exact(b λj hj=>h3 j U (hf.tail j i U h U)).elim
   have z:∀j,j<q->rl[j]?=M (rl.getD j O5):=λj hj=>getD_some U _;obtain⟨r,hr,hco⟩:=W i ops[i] o0;have hrr:rl.getD i O5=r:=o4
   have early:∀j x,j<i->rl[j]?=M x->IB (pO pl j) (pO pl i) x r=a38->Me listed j=a38:=λj x hj hx u=>h3 j U (hf.apart j i x r hj c hx hr u);have late:∀j y,i<j->j<q->rl[j]?=M y->IB (pO pl i) (pO pl j) r y=a38->Me listed j=a39:=by
    intro j y hj R hy u;rcases hb:Me listed j with _|_
    .rfl
    .have:=Xz H hb (hf.apart i j r y hj R hr hy u)
     grind
   have hF:=I i c;rw[hrr]at hF;have v:∀(k l:Nat) (x y:RI),(x.cls=2/\pO pl k=s5)->(y.cls=2/\pO pl l=s5)->IB (pO pl k) (pO pl l) x y=a38:=λk l x y hx hy=>by grind[IB]
   have ordered:∀j,j<q->∀id e,z6 os j=M (id,e)->id∈DF (pO pl i) (Rs rl os s0 (λ_=>a38) i) r->(Me listed j=a38↔j<i):=by
    intro j hj id e hw D;have j6:=I j hj;have S:=j6.lt hw;have E:Go.Tm.wB (pO pl j) (rl.getD j O5)=a38:=by rw[hw]at j6;exact j6.wB
    rcases Nat.lt_trichotomy j i with A|A|A
    .refine⟨λ_=>A,λ_=>?_⟩;have N:tC (pO pl j) (pO pl i) (rl.getD j O5) r=a38:=by grind[JY,qS]
     rcases hf.pairs j i _ r A c (z j hj) hr N with h|h
     all_goals grind
    .grind
    .refine⟨λg=>?_,λh=>U⟩;have N:tC (pO pl i) (pO pl j) r (rl.getD j O5)=a38:=qS D E;rcases hf.pairs i j r _ A hj hr (z j hj) N with h|h
     all_goals grind[Xz]
   refine aN2 hco hF (s:=Rs rl os s0 (Me listed) q) ?_ ?_ ?_ ?_ j9 (Oab h1) ?_
   .intro y hy;refine tX s0.t U λj hj hd=>?_;have hxj:=z j hj
    grind[P7,IB]
   .intro hpo hcls;simp only[Rs,Ot];refine congrArg List.length (qW s0.m (Nat.le_of_lt c) λj hj hx=>?_)
    grind
   .rintro id D ⟨e,he⟩ O;obtain⟨k,hk,Z⟩:=wK (xx:=kQ os) (L:=Me listed) s0.m q λi1 j1 X hj hx1 hx2 hL1=>
     Xz H hL1 (hf.apart i1 j1 _ _ X hj (z i1 U) (z j1 hj) (v _ _ _ _ (B i1 U hx1) (B j1 hj hx2)))
    simp only[Rs,Ot]at he O⊢;have S:id<(mS (kQ os) (λ_=>a38) s0.m i).length:=by
     grind[Ot]
    rw[GP _ _ _ O,GP _ _ _ S,tZ U λj hj e hw=>ordered j hj id e hw D];have hbase:(mS (kQ os) (Me listed) s0.m q)[id]?=(mS (kQ os) (λ_=>a38) s0.m i)[id]?:=by
     rw[Z]at O⊢;rcases naf i k with h|h
     .obtain⟨rr,hrr'⟩:=VM (xx:=kQ os) s0.m h
      grind
     .obtain⟨rr,hrr'⟩:=VM (xx:=kQ os) s0.m h
      grind
    grind
   .grind[Rs,Ot,aV6]
   .intro G' w' a' C hs' S;have f:mS (kQ os) (Me (listed.setIfInBounds i a38)) s0.m q=mS (kQ os) (Me listed) s0.m q++kQ os i:=by
     refine D4 s0.m h2 j8 c ?_
     grind
    have E:rp (Rs rl os s0 (Me listed) q) r (ddC os i) (kQ os i) (z6 os i)=Rs rl os s0 (Me (listed.setIfInBounds i a38)) q:=by
     rw[xN];simp only[Rs,St.mk.injEq];constructor
     .rw[V5 s0.t h2 j8 c ?_]
      all_goals grind[P7,IB]
     .rw[f,aD6 _ h2 j8 c ?_]
      .rw[J0 _ _ _ λj hj g id e he=>hV j hj g id e he]
       cases hw:z6 os i with
       |none=>rfl
       |some p=>
        obtain⟨id,e⟩:=p;have:=(hF.lt hw).2.1
        grind[wr]
      .intro j X R g id e e' hwi hwj;have:=(ordered j R id e' hwj (hF.lt hwi).2.2).1 g;omega
    rw[E]at C;refine ih (listed.setIfInBounds i a38) G' w' a' ?_ o4 h4 ?_ C ?_ ?_
    .have:=S? h2 j8 (l:=p! ops.size) o4;omega
    .grind
    .intro j hj g id e he;rw[f,Τ];rw[j8,Kad,aaA]at g;rcases g with g|rfl
     all_goals grind[Rs,Ot]
    .intro s'' G'' w'' a'' k1 k2 k3;refine hQ s'' G'' w'' a'' k1 k2 (hs'.trans ?_)
     grind[xN]
end
def Vs(P:a44):List (Option Nat)->List (List Nat)->List (List Nat)->Nat->List RI->(St->Prop)->St->Prop
 |_,_,_,0,l,K,s=>ln P l K s
 |_,_,_,_+1,[],_,_=>False
 |pl,ps,fp,q+1,.op dst g i::l,K,s=>
  match pl.headD s5 with
  |some p=>ZH fp [p] (ps.headD [])=a38/\g=s5/\∃d e,Pr s p i=M (d,e)/\Vs P pl.tail ps.tail (fp++[[p]]) q l K ({ s with m:=s.m.set p e }.put dst d)
  |none=>
   ZH fp (mr s (.op dst g i)) (ps.headD [])=a38/\
   match j! s g with
   |none=>False
   |some s5=>∃d m',Ph s i=a38/\fa s i=M (d,m')/\Vs P pl.tail ps.tail (fp++[mr s (.op dst g i)]) q l K ({ s with m:=m' }.put dst d)
   |some (M (c,b))=>(c=b->∃d m',Ph s i=a38/\fa s i=M (d,m')/\Vs P pl.tail ps.tail (fp++[mr s (.op dst g i)]) q l K ({ s with m:=m' }.put dst d))/\(c≠b->Vs P pl.tail ps.tail (fp++[mr s (.op dst g i)]) q l K (s.put dst (.v undef)))
 |pl,ps,fp,q+1,.call dst g f args::l,K,s=>
  match pl.headD s5,s.cv f with
  |some p,.fn k first caps=>g=s5/\p∈bc s args/\ZH fp (bc s args) (ps.headD [])=a38/\∃d e,((∀id∈bc s args,id<s.m.length)/\∀m,(∀id∈bc s args,m[id]?=s.m[id]?)->CallT P k (first++args.map s.ev++caps) m λd' m'=>d'=d/\m'=m.set p e)/\Vs P pl.tail ps.tail (fp++[bc s args]) q l K ({ s with m:=s.m.set p e }.put dst d)
  |none,.fn k first caps=>
   match j! s g with
   |none=>False
   |some s5=>ZH fp (bc s args) (ps.headD [])=a38/\∃d,((∀id∈bc s args,id<s.m.length)/\∀m,(∀id∈bc s args,m[id]?=s.m[id]?)->CallT P k (first++args.map s.ev++caps) m λd' m'=>d'=d/\m'=m)/\Vs P pl.tail ps.tail (fp++[bc s args]) q l K (s.put dst d)
   |some (M (c,b))=>ZH fp (bc s args) (ps.headD [])=a38/\(c=b->∃d,((∀id∈bc s args,id<s.m.length)/\∀m,(∀id∈bc s args,m[id]?=s.m[id]?)->CallT P k (first++args.map s.ev++caps) m λd' m'=>d'=d/\m'=m)/\Vs P pl.tail ps.tail (fp++[bc s args]) q l K (s.put dst d))/\(c≠b->Vs P pl.tail ps.tail (fp++[bc s args]) q l K (s.put dst (.v undef)))
  |none,_=>ZH fp (bc s args) (ps.headD [])=a38/\(∃c b,j! s g=M (M (c,b))/\c≠b)/\Vs P pl.tail ps.tail (fp++[bc s args]) q l K (s.put dst (.v undef))
  |_,_=>False
section
variable {P:a44} {K:St->Prop}
theorem T4:pO pl.tail j=pO pl (j+1):=by grind[pO]
theorem uI:∀{q:Nat}{l:List RI}{s:St}{pl:List (Option Nat)}{ps:List (List Nat)}{fp:List (List Nat)},Vs P pl ps fp q l K s->(∀(j:Nat) y,j<q->l[j]?=M y->((pO pl j).isSome || y.sM)=a38)->
 ∃os rs s1,tE P pl (l.take q) s os rs s1/\ln P (l.drop q) K s1/\(∀j,j<q->∀i∈ps.getD j [],i<fp.length+j->Kv ((fp++rs).getD i []) (rs.getD j [])=a38)
 |0,l,s,pl,ps,fp,h,_=>⟨[],[],s,by simp[tE],by simpa [Vs] using h,λj hj=>U⟩
 |q+1,[],s,pl,ps,fp,h,_=>by simp[Vs]at h
 |q+1,.op dst g i::l,s,pl,ps,fp,h,hc=>by
  have A:∀(j:Nat) y,j<q->l[j]?=M y->((pO pl.tail j).isSome || y.sM)=a38:=λj y hj O=>by grind[T4]
  simp only[Vs]at h;have join:∀{s2:St} {d x w},ZH fp (DF (pl.headD s5) s (.op dst g i)) (ps.headD [])=a38->Ar P (pl.headD s5) (.op dst g i) s d x w->rp s (.op dst g i) d x w=s2->Vs P pl.tail ps.tail (fp++[DF (pl.headD s5) s (.op dst g i)]) q l K s2->
   ∃os rs s1,tE P pl ((RI.op dst g i::l).take (q+1)) s os rs s1/\ln P ((RI.op dst g i::l).drop (q+1)) K s1/\(∀j,j<q+1->∀i∈ps.getD j [],i<fp.length+j->Kv ((fp++rs).getD i []) (rs.getD j [])=a38):=by
   intro s2 d x w n N hs r;obtain⟨os,rs,s1,H,h2,I⟩:=uI r A;refine⟨(d,x,w)::os,DF (pl.headD s5) s (.op dst g i)::rs,s1,by simp only[uab,tE];grind,l5,λj hj k hk G=>?_⟩
   cases j with
   |zero=>
    have E:k∈ps.headD []:=by cases ps with|nil=>simp at hk|cons a b=>simp_all
    have F:k<fp.length:=U
    have B:(fp++DF (pl.headD s5) s (.op dst g i)::rs).getD k []=fp.getD k []:=by
     grind
    grind[HM]
   |succ j=>
    grind[Η]
  split at h
  .rename_i p z;obtain⟨n,rfl,d,e,hf,r⟩:=h;exact join (d:=d) (x:=[]) (w:=M (p,e)) (by rw[z];exact n) (by rw[z];exact .inl ⟨dst,i,e,rfl,rfl,rfl,hf⟩) (show rp s (.op dst s5 i) d [] (M (p,e))=({ s with m:=s.m.set p e }:St).put dst d by grind[rp,wr,RI.dst]) (by rw[z];exact r)
  .rename_i z;have j9:(RI.op dst g i).sM=a38:=by
    have:=hc 0 _ U rfl;have h0:pO pl 0=s5:=by rw[←z];cases pl<;>rfl
    simp_all
   simp only[z,DF,Ar]at join;obtain⟨n,h⟩:=h;have on:∀{d:D} {m':List Ent},Ph s i=a38->fa s i=M (d,m')->(j! s g=M s5\/∃c,j! s g=M (M (c,c)))->Vs P pl.tail ps.tail (fp++[mr s (.op dst g i)]) q l K ({ s with m:=m' }.put dst d)->
    ∃os rs s1,tE P pl ((RI.op dst g i::l).take (q+1)) s os rs s1/\ln P ((RI.op dst g i::l).drop (q+1)) K s1/\(∀j,j<q+1->∀i∈ps.getD j [],i<fp.length+j->Kv ((fp++rs).getD i []) (rs.getD j [])=a38):=by
    intro d m' C he u r;simp only[RI.sM,Kad,w3]at j9;by_cases L:i.cls<=2
    .have ext:∃x,m'=s.m++x:=by
      rcases Κ i.cls 2 with h2|h2
      .exact⟨[],by rw[X!];exact(qv (s:=s) (s':=s) U (λ_ _=>rfl) (λ_ _ _ _=>rfl) he).1⟩
      .obtain⟨e,h,_⟩:=wL (s:=s) (s':=s) U (λ_ _=>rfl) rfl he
       simp_all
     obtain⟨x,rfl⟩:=ext;exact join n (x:=x) (w:=s5) (.inl ⟨u,.inl ⟨rfl,L,he⟩⟩) rfl r
    .have ht:i.tgt.isSome=a38:=l5
     obtain⟨a,ha⟩:=Option.isSome_iff_exists.1 ht;obtain⟨id,e,H,rfl,I,h4⟩:=BR ha C he;refine join n (x:=[]) (w:=M (id,e)) (.inl ⟨u,.inr ⟨rfl,a,id,e,ha,H,rfl,he,?_,C⟩⟩) ?_ r
     all_goals grind[rp,wr,RI.dst]
   have off:(∃c b,j! s g=M (M (c,b))/\c≠b)->Vs P pl.tail ps.tail (fp++[mr s (.op dst g i)]) q l K (s.put dst (.v undef))->
    ∃os rs s1,tE P pl ((RI.op dst g i::l).take (q+1)) s os rs s1/\ln P ((RI.op dst g i::l).drop (q+1)) K s1/\(∀j,j<q+1->∀i∈ps.getD j [],i<fp.length+j->Kv ((fp++rs).getD i []) (rs.getD j [])=a38):=λu r=>
    join n (d:=.v undef) (x:=[]) (w:=s5) (.inr ⟨u,rfl,rfl,rfl⟩) (by simp_all[rp,wr,RI.dst]) r
   split at h
   .simp_all
   .grind
   .rename_i c b u;by_cases t:c=b
    .subst t;obtain⟨d,m',C,he,r⟩:=h.1 rfl
     simp_all
    .exact off ⟨c,b,u,t⟩ (h.2 t)
 |q+1,.call dst g f args::l,s,pl,ps,fp,h,hc=>by
  have A:∀(j:Nat) y,j<q->l[j]?=M y->((pO pl.tail j).isSome || y.sM)=a38:=λj y hj O=>by grind[T4]
  rcases z:pl.headD s5 with _|p
  rotate_left
  .simp only[Vs]at h
   cases hf:s.cv f with
   |fn k first caps=>
    simp only[z,hf]at h;obtain⟨rfl,j6,n,d,e,o,r⟩:=h;obtain⟨os,rs,s1,H,h2,I⟩:=uI r A;refine⟨(d,[],M (p,e))::os,bc s args::rs,s1,?_,l5,λj hj k hk G=>?_⟩
    .simp only[uab,tE,z];refine⟨d,[],M (p,e),os,rs,rfl,rfl,.inr ⟨dst,f,args,k,first,caps,e,rfl,rfl,rfl,hf,j6,o.1,o.2⟩,?_⟩
     grind[rp,wr,RI.dst]
    .cases j with
     |zero=>
      have E:k∈ps.headD []:=by cases ps with|nil=>simp at hk|cons a b=>simp_all
      have F:k<fp.length:=U
      have B:(fp++bc s args::rs).getD k []=fp.getD k []:=by
       grind
      grind[HM]
     |succ j=>
      grind[Η]
   |_=>simp only[z,hf]at h
  have haf:∀d,rp s (.call dst g f args) d [] s5=s.put dst d:=λd=>by simp_all[rp,wr,RI.dst]
  have join:∀{d},ZH fp (bc s args) (ps.headD [])=a38->dC P (.call dst g f args) s d [] s5->Vs P pl.tail ps.tail (fp++[bc s args]) q l K (s.put dst d)->
   ∃os rs s1,tE P pl ((RI.call dst g f args::l).take (q+1)) s os rs s1/\ln P ((RI.call dst g f args::l).drop (q+1)) K s1/\(∀j,j<q+1->∀i∈ps.getD j [],i<fp.length+j->Kv ((fp++rs).getD i []) (rs.getD j [])=a38):=by
   intro d n N r;obtain⟨os,rs,s1,H,h2,I⟩:=uI r A;refine⟨(d,[],s5)::os,bc s args::rs,s1,by simp only[uab,tE,z,DF,mr,Ar];grind,l5,λj hj k hk G=>?_⟩
   cases j with
   |zero=>
    have E:k∈ps.headD []:=by cases ps with|nil=>simp at hk|cons a b=>simp_all
    have F:k<fp.length:=U
    have B:(fp++bc s args::rs).getD k []=fp.getD k []:=by
     grind
    grind[HM]
   |succ j=>
    grind[Η]
  simp only[Vs]at h
  cases hf:s.cv f with
  |fn k first caps=>
   simp only[z,hf]at h;split at h
   .simp_all
   .rename_i u;obtain⟨n,d,o,r⟩:=h;exact join n ⟨rfl,rfl,.inl ⟨k,first,caps,hf,.inl u,o⟩⟩ r
   .rename_i c b u;obtain⟨n,h⟩:=h;by_cases t:c=b
    .subst t;obtain⟨d,o,r⟩:=h.1 rfl;exact join n ⟨rfl,rfl,.inl ⟨k,first,caps,hf,.inr ⟨c,u⟩,o⟩⟩ r
    .exact join n ⟨rfl,rfl,.inr ⟨⟨c,b,u,t⟩,rfl⟩⟩ (h.2 t)
  |_=>
   simp only[z,hf]at h;obtain⟨n,⟨c,b,u,t⟩,r⟩:=h;exact join n ⟨rfl,rfl,.inr ⟨⟨c,b,u,t⟩,rfl⟩⟩ r
end
section
variable {P:a44} {N:Nat} {ops:Array Oper} {Q:Exit->Act->a42->Prop} {K:St->Prop} {rl:List RI} {q:Nat} {ps:List (List Nat)} {pl:List (Option Nat)}
theorem oH(Hz:P.follows .mixedOrders=a38) (hc:Wi P ops ops.toList=M rl) (hf:P? (Pb ops) rl q ps pl) (B:Vs P pl ps [] q rl K s) (u:∀i p,pO pl i=M p->p<s.m.length)
 {G:Gh} {w:a42} (hr:o? G w a s) (hQ:∀s' G' w' a',K s'->o? G' w' a' s'->Step G w s.m G' w' s'.m->Q .normal a' w'):(Code.region id ops a38).wp P Q a w:=by
 obtain⟨os,rs,s1,x,C,hap⟩:=uI B hf.sM;have c:(rl.take q).length=q:=by rw[Aac];have:=hf.hq;omega
 have e:=x.length;rw[c]at e;have A:Rs rl os s (λ_=>a38) 0=s:=rfl;obtain⟨g1,g2⟩:=tE.get (pl:=pl) (rl:=rl) (os:=os) (s0:=s) (k:=0) (l:=rl.take q) (os':=os) (s':=s1) (rs:=rs) o0 o0 (λj hj=>U) (by rw[A];exact x);simp only[c,Y!]at g1 g2;subst g2;have r:∀j,Me (Zab ops.size a39) j=a39:=by
  intro j;unfold Me;simp only[ead,bae]
  grind
 have d:Rs rl os s (Me (Zab ops.size a39)) q=s:=by
  have ht:∀n,tS (P7 rl) (ddC os) (Me (Zab ops.size a39)) s.t n=s.t:=by
   intro n
   induction n with
   |zero=>rfl
   |succ n z=>simp_all[tS]
  have hm:∀n,mS (kQ os) (Me (Zab ops.size a39)) s.m n=s.m:=by
   intro n
   induction n with
   |zero=>rfl
   |succ n z=>simp_all[mS]
  have hw:∀n,sS (z6 os) (Me (Zab ops.size a39)) s.m n=s.m:=by
   intro n
   induction n with
   |zero=>rfl
   |succ n z=>simp_all[sS]
  grind[Rs]
 refine wp_region_any Hz ?_;have v:=N'.drew w;refine NY hc hf (λi hi=>(g1 i hi).1) u ?_ ?_ C ops.size _ G _ a ?_ o0 ?_ (λj _=>r j) ?_ (λj _ h=>l5) ?_
 .intro i hi hx;have h:=(g1 i hi).1;rcases y:pO pl i with _|p
  .rw[y]at h;refine⟨?_,rfl⟩
   cases o:rl.getD i O5 with
   |call dst g f args=>
    rw[o]at h;obtain⟨h,_⟩:=h
    simp_all
   |op dst g j=>
    rw[o]at h;rcases h with⟨-,⟨_,hcl,h⟩|⟨h,_⟩⟩|⟨-,-,h,_⟩
    .simp only[RI.cls];rcases Κ j.cls 2 with h2|h2
     .obtain⟨hm,-⟩:=qv (s:=Rs rl os s (λ_=>a38) i) (s':=Rs rl os s (λ_=>a38) i) U (λ_ _=>rfl) (λ_ _ _ _=>rfl) h
      simp_all
     omega
    all_goals simp_all
  .rw[y]at h;rcases h with⟨_,_,_,_,h,_⟩|⟨_,_,_,_,_,_,_,_,h,_⟩
   all_goals simp_all
 .grind[jR]
 .grind
 .intro i b _ hi
  simp_all
 .rw[d];exact⟨hr.t.mono (v.le G),v.inv hr.inv,hr.defers⟩
 .intro s' G' w' a' D E k3;rw[d]at k3;exact hQ s' G' w' a' D E ((v.step G s.m).trans k3)
def Yz(m:List Ent) (pl:List (Option Nat)):Bool:=pl.all λo=>match o with|some p=>s6 (p<m.length)|none=>a38
theorem aj4{m:List Ent}{pl:List (Option Nat)}(h:Yz m pl=a38):∀i p,pO pl i=M p->p<m.length:=by
 intro i p a;unfold Yz at h;rw[R']at h;unfold pO at a;have hm:M p∈pl:=by
  grind
 grind
theorem T.anyO(hm:P.follows .mixedOrders=a38) {bs:List (List Nat)}{K:Exit->St->Prop}(ps:List (List Nat)) (pl:List (Option Nat)) (c:iB bs l q ps pl=a38) (d:Yz s.m pl=a38) (h:Vs P pl ps [] q l (K .normal) s):T P N (.any cuts q bs l) K s:=by
 intro code hc G w a hN hr;obtain⟨id,ops,rfl,rfl,b,e⟩:=as7 hc;exact oH hm b (wQ (rU e).1 c) h (aj4 d) hr λs' G' w' a' f g k3=>⟨s',G',f,g,k3.toN hN⟩
theorem dB{K:St->Prop}:∀{q:Nat}{l:List RI}{ps fp:List (List Nat)}{s:St},dE P ps fp q l K s->Vs P [] ps fp q l K s
 |0,l,ps,fp,s,h=>by simpa only[Vs,dE] using h
 |q+1,[],ps,fp,s,h=>by simp[dE]at h
 |q+1,.op dst g i::l,ps,fp,s,h=>by
  simp only[Vs,dE,daf,jaf]at h⊢;refine⟨h.1,?_⟩;have h2:=h.2
  cases j:j! s g with
  |none=>simp_all
  |some o=>
   cases o with
   |none=>
    simp only[j]at h2⊢;obtain⟨d,m',a,h2,e⟩:=h2;exact⟨d,m',a,h2,dB e⟩
   |some m=>
    obtain⟨c,b⟩:=m;simp only[j]at h2⊢;refine⟨λhc=>?_,λhc=>dB (h2.2 hc)⟩;obtain⟨d,m',a,h2,e⟩:=h2.1 hc;exact⟨d,m',a,h2,dB e⟩
 |q+1,.call dst g f args::l,ps,fp,s,h=>by
  simp only[Vs,dE,daf,jaf]at h⊢
  cases hf:s.cv f with
  |fn k first caps=>
   simp only[hf]at h⊢
   cases j:j! s g with
   |none=>simp_all
   |some o=>
    cases o with
    |none=>
     simp only[j]at h⊢;obtain⟨n,d,a,e⟩:=h;exact⟨n,d,a,dB e⟩
    |some m=>
     obtain⟨c,b⟩:=m;simp only[j]at h⊢;refine⟨h.1,λhc=>?_,λhc=>dB (h.2.2 hc)⟩;obtain⟨d,a,e⟩:=h.2.1 hc;exact⟨d,a,dB e⟩
  |_=>simp only[hf]at h
def T.any2(hm:P.follows .mixedOrders=a38) {bs:List (List Nat)}{K:Exit->St->Prop}(ps:List (List Nat)) (a:iB bs l q ps []=a38) (h:dE P ps [] q l (K .normal) s):T P N (.any cuts q bs l) K s:=
 T.anyO hm ps [] a rfl (dB h)
theorem T.drawO(hm:P.follows .mixedOrders=a38) {K:Exit->St->Prop}(h:Vs P [] [] [] q l (K .normal) s):T P N (.draw q l) K s:=by
 intro code hc G w a hN hr;obtain⟨id,ops,rfl,f,n⟩:=ZJ hc;have hf:=Ez n;have b:∀i,pO [] i=s5:=λi=>rfl;have notgt:∀(j:Nat) d g i,j<q->l[j]?=M (.op d g i)->i.tgt=s5:=by
  intro j d g i hj hl;have o:=hf.cls j _ hj hl
  cases ht:i.tgt with
  |none=>rfl
  |some x=>grind[RI.cls,bN]
 refine oH hm f (ps:=[]) (pl:=[]) ⟨hf.toTailFacts,?_,?_,?_⟩ h (λi p hp=>l5) hr λs' G' w' a' r t k3=>⟨s',G',r,t,k3.toN hN⟩
 .intro j y hj e;have:=hf.cls j y hj e;rw[b]
  cases y with
  |call=>rfl
  |op d g i=>grind[RI.sM,RI.cls]
 .intro i j x y c hj hx e hcl;refine hf.apart i j x y c hj hx e ?_
  grind[IB,OG]
 .intro i j x y c hj hx e m;exfalso;rw[b,b]at m
  cases x with
  |call=>
   cases y with
   |call=>grind[tC,wB]
   |op d g k=>grind[tC,wB]
  |op d g k=>
   have o:=notgt i d g k U hx
   cases y with
   |call=>grind[tC,wB]
   |op d' g' k'=>grind[tC,wB]
theorem T.drawP(hm:P.follows .mixedOrders=a38) {K:Exit->St->Prop}(ps:List (List Nat)) (pl:List (Option Nat)) (hcl:∀i p,pO pl i=M p->∃a b c d,l[i]?=M (.call a b c d))
 (hps:∀j,j<q->∀i,i<j->i∈ps.getD j []) (n:Yz s.m pl=a38) (h:Vs P pl ps [] q l (K .normal) s):T P N (.draw q l) K s:=by
 intro code hc G w a hN hr;obtain⟨id,ops,rfl,e,k⟩:=ZJ hc;have hf:=Ez k;refine oH hm e (ps:=ps) (pl:=pl) ⟨hf.toTailFacts,?_,?_,?_⟩ h (aj4 n) hr λs' G' w' a' r t k3=>⟨s',G',r,t,k3.toN hN⟩
 .intro j y hj o;have:=hf.cls j y hj o
  cases y with
  |call=>simp[RI.sM]
  |op d g i=>grind[RI.sM,RI.cls]
 .intro i j x y f hj hx o hcl';refine hf.apart i j x y f hj hx o ?_
  grind[IB,OG]
 simp_all
end
section
variable {P:a44} {N:Nat}
mutual
def Ad(n:Nat):D->D->Prop
 |.v x,.own i v=>x=.slice s5 0 0/\i=n/\v=0
 |.agg l,.agg r=>Uw n l r
 |d,e=>d=e
def Uw(n:Nat):List D->List D->Prop
 |[],r=>r=[]
 |d::l,r=>∃e a,r=e::a/\Ad n d e/\Uw n l a
end
theorem Ad.inv{e:D}(h:Ad n d e):(d=.v (.slice s5 0 0)/\e=.own n 0)\/(∃l r,d=.agg l/\e=.agg r/\Uw n l r)\/d=e:=by
 cases d<;>cases e<;>simp_all[Ad]
mutual
theorem Ad.rel{G:Gh}{w:a42}{n:Nat}(ho:VRel G w (.own n 0) (.slice s5 0 0)):∀{d e:D}{u:a41},Ad n d e->VRel G w d u->VRel G w e u
 |.agg l,e,u,b,h=>by
  rcases b.inv with⟨a,_⟩|⟨l',r,a,rfl,c⟩|rfl
  .grind
  .injection a with a;subst a;simp only[VRel]at h⊢;obtain⟨cs,rfl,h,a⟩:=h;exact⟨cs,rfl,Uw.rel ho c h,a⟩
  omega
 |.v x,e,u,b,h=>by
  rcases b.inv with⟨a,rfl⟩|⟨_,_,a,_⟩|rfl
  .injection a with a;subst a;simp only[VRel]at h;simp_all
  all_goals simp_all
 |.tup l,e,u,b,h=>by rcases b.inv with⟨a,_⟩|⟨_,_,a,_⟩|rfl<;>first|cases a|exact h
 |.sl S l,e,u,b,h=>by rcases b.inv with⟨a,_⟩|⟨_,_,a,_⟩|rfl<;>first|cases a|exact h
 |.pt x,e,u,b,h=>by rcases b.inv with⟨a,_⟩|⟨_,_,a,_⟩|rfl<;>first|cases a|exact h
 |.ref _ _ _ _,e,u,b,h=>by rcases b.inv with⟨a,_⟩|⟨_,_,a,_⟩|rfl<;>first|cases a|exact h
 |.own _ _,e,u,b,h=>by rcases b.inv with⟨a,_⟩|⟨_,_,a,_⟩|rfl<;>first|cases a|exact h
 |.view _ _ _ _,e,u,b,h=>by rcases b.inv with⟨a,_⟩|⟨_,_,a,_⟩|rfl<;>first|cases a|exact h
 |.fn _ _ _,e,u,b,h=>by rcases b.inv with⟨a,_⟩|⟨_,_,a,_⟩|rfl<;>first|cases a|exact h
 |.mp _,e,u,b,h=>by rcases b.inv with⟨a,_⟩|⟨_,_,a,_⟩|rfl<;>first|cases a|exact h
 |.ifc _ _,e,u,b,h=>by rcases b.inv with⟨a,_⟩|⟨_,_,a,_⟩|rfl<;>first|cases a|exact h
 |d!,e,u,b,h=>by rcases b.inv with⟨a,_⟩|⟨_,_,a,_⟩|rfl<;>first|cases a|exact h
theorem Uw.rel{G:Gh}{w:a42}{n:Nat}(ho:VRel G w (.own n 0) (.slice s5 0 0)):∀{l r:List D}{us:List a41},Uw n l r->VsRel G w l us->VsRel G w r us
 |[],r,us,a,h=>by simp only[Uw]at a;simp_all
 |d::l,r,us,a,h=>by
  simp only[Uw]at a;obtain⟨e,r',rfl,c,h2⟩:=a;simp only[VsRel]at h⊢;obtain⟨u,b,rfl,g1,g2⟩:=h;exact⟨u,b,rfl,Ad.rel ho c g1,Uw.rel ho h2 g2⟩
end
theorem Uw.row{G:Gh}{w:a42}{n b S:Nat}(ho:VRel G w (.own n 0) (.slice s5 0 0)):∀{l r:List D}{off:Nat},Uw n l r->Xa G w b S l off->Xa G w b S r off
 |[],r,off,a,h=>by simp only[Uw]at a;subst a;exact h
 |d::l,r,off,a,h=>by
  simp only[Uw]at a;obtain⟨e,r',rfl,c,h2⟩:=a;simp only[Xa]at h⊢;obtain⟨⟨u,g1,g2,g3⟩,g4⟩:=h;exact⟨⟨u,Ad.rel ho c g1,g2,g3⟩,Uw.row ho h2 g4⟩
theorem Uw.length{n:Nat}:∀{l r:List D},Uw n l r->l.length=r.length
 |[],r,h=>by simp[Uw]at h;simp[h]
 |d::l,r,h=>by
  simp only[Uw]at h;obtain⟨e,r',rfl,_,h2⟩:=h;simp[Uw.length h2]
mutual
theorem Ad.refl(n:Nat):∀d:D,Ad n d d
 |.agg l=>by simp only[Ad];exact Uw.refl n l
 |.v x=>by simp[Ad]
 |.tup l=>by simp[Ad]
 |.sl S l=>by simp[Ad]
 |.pt d=>by simp[Ad]
 |.ref ..=>by simp[Ad]
 |.own ..=>by simp[Ad]
 |.view ..=>by simp[Ad]
 |.fn ..=>by simp[Ad]
 |.mp ..=>by simp[Ad]
 |.ifc ..=>by simp[Ad]
 |d!=>by simp[Ad]
theorem Uw.refl(n:Nat):∀l:List D,Uw n l l
 |[]=>by simp[Uw]
 |d::l=>by simp only[Uw];exact⟨d,l,rfl,Ad.refl n d,Uw.refl n l⟩
end
theorem Uw.cons{e:D}{l r:List D}(h1:Ad n d e) (h2:Uw n l r):Uw n (d::l) (e::r):=by
 simp only[Uw];grind
theorem Ad.nil(n:Nat):Ad n (.v (.slice s5 0 0)) (.own n 0):=by simp[Ad]
def WL(n:Nat):Ent->Ent->Prop
 |l! S v l,l! S' c l'=>S=S'/\v=c/\Uw n l l'
 |.mp a,.mp b=>a.map (·.1)=b.map (·.1)/\Uw n (a.map (·.2)) (b.map (·.2))
 |e,e'=>e=e'
def lD(n:Nat):List Ent->List Ent->Prop
 |[],r=>r=[]
 |d::l,r=>∃e a,r=e::a/\WL n d e/\lD n l a
theorem WL.refl(n:Nat) (e:Ent):WL n e e:=by cases e<;>simp[WL,Uw.refl]
theorem lD.refl(n:Nat):∀m:List Ent,lD n m m
 |[]=>by simp[lD]
 |d::l=>by simp only[lD];exact⟨d,l,rfl,WL.refl n d,lD.refl n l⟩
theorem lD.cons{d:Ent}{l r:List Ent}(h1:WL n d e) (h2:lD n l r):lD n (d::l) (e::r):=by
 simp only[lD];grind
theorem WL.live{n S v:Nat}{l r:List D}(h:Uw n l r):WL n (l! S v l) (l! S v r):=by simp only[WL];simp_all
theorem lD.get{n:Nat}:∀{m m':List Ent},lD n m m'->m.length=m'.length/\∀(i:Nat) e,m'[i]?=M e->∃e0,m[i]?=M e0/\WL n e0 e
 |[],m',h=>by simp[lD]at h;subst h;simp
 |d::m,m',h=>by
  simp only[lD]at h;obtain⟨e,r',rfl,a,h2⟩:=h;obtain⟨b,c⟩:=lD.get h2;refine⟨by simp[b],λi e' he=>?_⟩
  cases i with
  |zero=>simp at he;subst he;exact⟨d,rfl,a⟩
  |succ i=>simpa using c i e' (by simpa using he)
theorem lD.append{n:Nat}:∀{m m':List Ent}(x:List Ent),lD n m m'->lD n (m++x) (m'++x)
 |[],m',x,h=>by simp[lD]at h;subst h;exact lD.refl n x
 |d::m,m',x,h=>by
  simp only[lD]at h;obtain⟨e,r',rfl,a,h2⟩:=h;simp only[List.cons_append];exact lD.cons a (lD.append x h2)
theorem am3{G:Gh}{w:a42}{n:Nat}(ho:VRel G w (.own n 0) (.slice s5 0 0)):∀{a b:List (a41×D)}{es:List MapEntry},a.map (·.1)=b.map (·.1)->Uw n (a.map (·.2)) (b.map (·.2))->Oe G w a es->Oe G w b es
 |[],[],_,_,_,h=>h
 |(k,d)::a,(k',d')::b,es,hk,hd,h=>by
  obtain⟨e,r,c,f,h2,g⟩:=h;simp only[D?,Pad]at hk;simp only[D?,Uw,Pad]at hd;obtain⟨x,r',⟨rfl,rfl⟩,g1,g2⟩:=hd;exact⟨e,r,c,by rw[f,hk.1],Ad.rel ho g1 h2,am3 ho hk.2 g2 g⟩
 |[],_::_,_,hk,_,_=>by simp at hk
 |_::_,[],_,hk,_,_=>by simp at hk
theorem WL.rel{G:Gh}{w:a42}{e':Ent}(ho:VRel G w (.own n 0) (.slice s5 0 0)) (h:WL n e e') (hr:qp G w i e):qp G w i e':=by
 cases e with
 |live S v l=>
  cases e' with
  |live S' v' l'=>
   simp only[WL]at h;obtain⟨rfl,rfl,h⟩:=h;obtain⟨a1,a2,a3,a4,a5⟩:=hr;rw[h.length]at a3 a4;refine⟨a1,a2,a3,a4,?_⟩;rcases a5 with a5|⟨g,cs,T,d,j,c,m,f⟩
   .exact .inl a5
   .exact .inr ⟨g,cs,T,d,j,c,m,Uw.row ho h f⟩
  |_=>simp[WL]at h
 |mp a=>
  cases e' with
  |mp b=>
   simp only[WL]at h;obtain⟨a1,g,p,o,d,j,c,k⟩:=hr;exact⟨a1,g,p,o,d,j,c,am3 ho h.1 h.2 k⟩
  |_=>simp[WL]at h
 |gone=>simp only[WL]at h;subst h;exact hr
theorem WL.isLive{n:Nat}{e e':Ent}(h:WL n e e'):e'.isLive=e.isLive:=by
 cases e<;>cases e'<;>simp_all[WL,Ent.isLive]
theorem T.adoptM{c:C}(S:Nat) {t':List D}{m':List Ent}(ht:Uw s.m.length s.t t') (hm:lD s.m.length s.m m') (h:Tm.T P N c K ⟨t',m'++[l! S 0 []]⟩):Tm.T P N c K s:=by
 refine T.ghost (λG w a hN hr=>?_) h;have d:=vE (w':=w) hr.inv s5 S 0 0 (l! S 0 []) rfl rfl rfl rfl (x? _) (λ_ _=>rfl) (λk h=>by cases h)
  ⟨by simp[Gh.add],by simp[Gh.add],by simp[Gh.add],o0,.inl ⟨by simp[Gh.add],by simp[Gh.add]⟩⟩
 have ho:=tF (s:=s) (b:=s5) (S:=S) (N:=0) (C:=0) (w':=w) hr.inv.n;have l:=(lD.append [l! S 0 []] hm).get;have hi:=d.1;refine⟨_,⟨Uw.rel ho ht (hr.t.mono d.2.le),⟨by rw[hi.n,l.1],hi.F,λi e he=>?_,λi j e e' he u hl hl' b hb r=>?_,hi.gl⟩,hr.defers⟩,?_⟩
 .obtain⟨e0,f,g⟩:=l.2 i e he;exact g.rel ho (hi.ent i e0 f)
 .obtain⟨e0,f,g⟩:=l.2 i e he;obtain⟨o,p,q⟩:=l.2 j e' u;exact hi.apart i j e0 o f p (by rw[←g.isLive];omega) (by rw[←q.isLive];omega) b hb r
 .refine { d.2.toN hN with newB:=λb hb v=>d.2.newB b hb ?_ };obtain⟨i,e,he,hl,x⟩:=v;obtain⟨e0,f,g⟩:=l.2 i e he;exact⟨i,e0,f,by rw[←g.isLive];omega,x⟩
end
def vN(S id x:Nat) (s:St):St:=
 match s.m[id]? with
 |some (l! S' v l)=>
  match l[x]? with
  |some (.v (.slice s5 0 0))=>⟨s.t,s.m.set id (l! S' v (l.set x (.own s.m.length 0)))++[l! S 0 []]⟩
  |_=>s
 |_=>s
theorem Uw.set{n:Nat}:∀{l:List D}{x:Nat},l[x]?=M (.v (.slice s5 0 0))->Uw n l (l.set x (.own n 0))
 |[],x,h=>o4
 |d::l,0,h=>by grind[Uw.cons,Ad.nil,Uw.refl]
 |d::l,x+1,h=>Uw.cons (Ad.refl n d) (Uw.set l5)
theorem lD.set{n S v:Nat}{l l':List D}(hl:Uw n l l'):∀{m:List Ent}{id:Nat},m[id]?=M (l! S v l)->lD n m (m.set id (l! S v l'))
 |[],id,h=>o4
 |e::m,0,h=>by grind[lD.cons,WL.live,lD.refl]
 |e::m,id+1,h=>lD.cons (WL.refl n e) (lD.set hl l5)
theorem av7{P:a44}{N:Nat}{c:C}{x:Nat}(h:Tm.T P N c K (vN S id x s)):Tm.T P N c K s:=by
 unfold vN at h;split at h
 .rename_i S' v l hm;split at h
  .rename_i hx;exact T.adoptM S (Uw.refl _ _) (lD.set (Uw.set hx) hm) h
  omega
 omega
def XA(S id:Nat):Nat->St->St
 |0,s=>s
 |x+1,s=>vN S id x (XA S id x s)
def TJ{P:a44}{N:Nat}{c:C}{K:Exit->St->Prop}{S id:Nat}:∀{x:Nat}{s:St},Tm.T P N c K (XA S id x s)->Tm.T P N c K s
 |0,s,h=>h
 |x+1,s,h=>TJ (x:=x) (av7 h)
def cu6:RI->Option Nat
 |.op _ s5 (.alloc S _)=>M S
 |.op _ s5 (.box S _)=>M S
 |.op _ s5 (.bslice S _ _ _)=>M S
 |_=>s5
def cv1:RI->Bool
 |.op _ _ i=>aaf i.cls 2
 |_=>a39
def z!:List RI->Nat->List (Option Nat)
 |[],_=>[]
 |r::l,n=>
  match cu6 r with
  |some _=>bif l.any cv1 then M n::z! l (n+1)else s5::z! l n
  |none=>s5::z! l n
def cD3(m:List Ent) (d:D):Option D:=
 bif flat d then M d else
 match d with
 |.own id Va=>
  match m[id]? with
  |some (l! S v l)=>bif aaf v Va&&CR l then M (.sl S l)else s5
  |_=>s5
 |_=>s5
def RL(id Va:Nat) (d:D):D:=
 match d with
 |.ref i v x s=>bif aaf i id&&aaf v Va then .ref 0 0 x s else d!
 |d=>bif xa d then d else d!
theorem kaa{G G':Gh}{w:a42}(a:U' G w G' w) (hr:∀x s u,VRel G w (.ref id Va x s) u->VRel G' w (.ref 0 0 x s) u) {u:a41}(h:VRel G w d u):VRel G' w (RL id Va d) u:=by
 unfold RL;split
 .rename_i i v x s;cases hb:(aaf i id&&aaf v Va)
  .simp[VRel]
  simp_all
 .cases hf:xa d
  .simp[VRel]
  .exact h.free a hf
section
variable {P:a44}
theorem au1{l X:List D}{m m1:List Ent}{ds:List D}{d1:D}
 (t:m[id]?=M (l! S Va l)) (hl:oa l=a38) (j9:m1[0]?=M (l! S 0 X))
 (h:CallT P k (ds.map (RL id Va)) [l! S 0 l] λd m'=>d=d1/\m'=m1) :
 CallT P k ds m λd m'=>d=Lg 8 (m1.set 0 .gone) d1/\m'=m.set id (l! S Va (X.map (Lg 8 (m1.set 0 .gone)))):=by
 refine⟨h.1,λG w vs hv hi=>?_⟩;have hlen:id<m.length:=(dab.1 t).1;obtain⟨eV,eS,eN,eC,eB⟩:=hi.ent id _ t;have j6:U' G w ⟨G.F,1,λ_=>G.B id,λ_=>0,λ_=>G.S id,λ_=>G.N id,λ_=>G.C id⟩ w:=⟨λ_ h=>h,λ_ _=>rfl⟩;have hv':=Px (G':=⟨G.F,1,λ_=>G.B id,λ_=>0,λ_=>G.S id,λ_=>G.N id,λ_=>G.C id⟩) (f:=RL id Va) (λd u hu=>kaa j6 (λx s u hu=>by
  simp only[VRel]at hu⊢
  grind) hu) hv
 have hic:Inv ⟨G.F,1,λ_=>G.B id,λ_=>0,λ_=>G.S id,λ_=>G.N id,λ_=>G.C id⟩ w [l! S 0 l]:=by
  refine⟨rfl,hi.F,?_,?_,hi.gl.bare λ_ h=>h⟩
  .intro i e he
   cases i with
   |zero=>
    simp at he;subst he;refine⟨rfl,eS,eN,eC,?_⟩;rcases eB with h|⟨b,cs,T,p,h2,W,Z,h5⟩
    .simp_all
    .exact .inr ⟨b,cs,T,p,h2,W,Z,Xa.free j6 rfl hl h5⟩
   |succ i=>simp at he
  grind
 have r:∀b,Mg ⟨G.F,1,λ_=>G.B id,λ_=>0,λ_=>G.S id,λ_=>G.N id,λ_=>G.C id⟩ [l! S 0 l] b->G.B id=M b:=by
  rintro b ⟨i,e,he,-,E⟩;omega
 refine(h.2 _ w vs hv' hic).mono ?_;rintro e w' ⟨v,d,m',G',rfl,⟨rfl,rfl⟩,hvd,g,a⟩;obtain⟨fV,fS,fN,fC,fB⟩:=g.ent 0 _ j9;have hlen1:0<m'.length:=(dab.1 j9).1;have live1:(Ent.live S Va l).isLive=a38:=rfl;obtain⟨sB,sS,sN,sC⟩:G'.B 0=G.B id/\G'.S 0=G.S id/\G'.N 0=G.N id/\G'.C 0=G.C id:=by
  rcases a.le.id 0 (Nat.lt_succ_self 0)with⟨_,p,h2,W,Z⟩|h
  all_goals simp_all
 have c:∀i x,(m'.set 0 .gone)[i]?=M x->(i=0/\x=.gone)\/(i≠0/\m'[i]?=M x):=by
  grind
 have O:Inv G' w' (m'.set 0 .gone):=by
  refine⟨by simpa using g.n,g.F,?_,?_,g.gl⟩
  .intro i x hx;rcases c i x hx with⟨rfl,rfl⟩|⟨L,hx⟩
   .trivial
   .exact g.ent i x hx
  .intro i j x y hx j8 A Y b hb I;rcases c i x hx with⟨rfl,rfl⟩|⟨L,hx⟩
   .cases A
   .rcases c j y j8 with⟨rfl,rfl⟩|⟨p,j8⟩
    .cases Y
    .exact g.apart i j x y hx j8 A Y b hb I
 have H:∀b,Mg G' (m'.set 0 .gone) b->Mg G' m' b/\G'.B 0≠M b:=by
  rintro b ⟨i,x,hx,A,E⟩;rcases c i x hx with⟨rfl,rfl⟩|⟨L,hx⟩
  .cases A
  .exact⟨⟨i,x,hx,A,E⟩,λh=>L (g.apart i 0 x _ hx j9 A rfl b E h)⟩
 have hF':∀b,(G'.F b\/Mg G' (m'.set 0 .gone) b)->b<w'.heap.size:=by
  rintro b (hb|hb)
  .exact g.F b hb
  .exact(Mg.lt O hb).1
 have R:∀d u,VRel G' w' d u->VRel ⟨λb=>G'.F b\/Mg G' (m'.set 0 .gone) b,G.n,G.B,G.V,G.S,G.N,G.C⟩ w' (Lg 8 (m'.set 0 .gone) d) u:=by
  intro d u hu;have L:=SV O 8 d u hu;refine VRel.free ?_ (eG _ _ _) L;exact⟨λ_ h=>h,λ_ _=>rfl⟩
 have Q:Le G w ⟨λb=>G'.F b\/Mg G' (m'.set 0 .gone) b,G.n,G.B,G.V,G.S,G.N,G.C⟩ w':=
  ⟨λb hb=>.inl (a.le.F b hb),λb hb=>a.le.heap b hb,x? _,λi _=>.inl o0⟩
 have K:∀i x,m[i]?=M x->x.isLive=a38->∀b,G.B i=M b->b<w.heap.size/\¬G.F b:=λi x hx hl b hb=>(hi.ent i x hx).lt hl hb;have notO:∀i x,m[i]?=M x->x.isLive=a38->i≠id->∀b,G.B i=M b->G.B id≠M b:=λi x hx o hne b hb E=>hne (hi.apart i id x _ hx t o live1 b hb E);have q:∀i x,(m.set id (l! S Va (X.map (Lg 8 (m'.set 0 .gone)))))[i]?=M x->(m[i]?=M x/\i≠id)\/(i=id/\x=l! S Va (X.map (Lg 8 (m'.set 0 .gone)))):=by
  grind
 refine⟨v,_,_,⟨λb=>G'.F b\/Mg G' (m'.set 0 .gone) b,G.n,G.B,G.V,G.S,G.N,G.C⟩,rfl,⟨rfl,rfl⟩,R _ _ hvd,⟨by simp[hi.n],hF',?_,?_,g.gl.bare λ_ h=>.inl h⟩,⟨Q,a.os,a.tape,a.output,a.size,?_,?_,?_⟩⟩
 .intro i x hx;rcases q i x hx with⟨p,h2⟩|⟨rfl,rfl⟩
  .by_cases o:x.isLive=a38
   .refine(hi.ent i x p).mono Q o0 (λb hb=>?_) (λb hb _ z=>?_)
    .exact a.keep b (K i x p o b hb).1 λho=>notO i x p o h2 b hb (r b ho)
    .rcases z with z|z
     .rcases a.newF b (K i x p o b hb).1 z with h|h
      all_goals grind
     .exact(notO i x p o h2 b hb (r b (a.newB b (K i x p o b hb).1 (H b z).1))).elim
   .cases x with
    |gone=>trivial
    |_=>grind[Ent.isLive]
  .refine⟨eV,eS,l5,l5,?_⟩
   grind[Vy]
 .intro i j x y hx j8 A Y b hb I;rcases q i x hx with⟨p,h2⟩|⟨rfl,rfl⟩<;>rcases q j y j8 with⟨W,Z⟩|⟨rfl,rfl⟩
  .exact hi.apart i j x y p W A Y b hb I
  all_goals grind
 .intro b hb hno;exact a.keep b hb λho=>hno ⟨id,_,t,live1,r b ho⟩
 .intro b hb z;rcases z with z|z
  .rcases a.newF b hb z with h|h
   all_goals grind
  .exact .inr ⟨id,_,t,live1,r b (a.newB b hb (H b z).1)⟩
 .rintro b hb ⟨i,x,hx,A,E⟩;rcases q i x hx with⟨p,h2⟩|⟨rfl,rfl⟩
  .exact⟨i,x,p,A,E⟩
  .exact⟨i,_,t,live1,E⟩
end
def xE(q:Nat):List (List Nat):=(p! q).map p!
theorem PU{q:Nat}:∀j,j<q->∀i,i<j->i∈(xE q).getD j []:=by
 grind[xE]
end Go.Tm
