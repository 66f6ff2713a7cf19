/-
  The engine: a part of the proof that trees of values are carried along by the program: no condition.
-/
import Derived.Test.YtjjfnbpfgfopbaaGreatDoorEA
import Derived.Orders
open Array renaming getD_eq_getD_getElem?->Xac,getElem?_eq_getElem->Tab,getElem?_replicate->Rad,length_toList->xac,range->Zad,replicate->eac
open Bool renaming and_eq_true->zaa,or_eq_true->Had
open List renaming all_eq_true->Xaa,append_nil->Taa,drop_eq_getElem_cons->mab,drop_eq_nil_of_le->Aac,getD_cons_succ->nab,getD_eq_getElem?_getD->iad,getElem?_eq_getElem->naa,getElem?_eq_some_iff->fab,getElem?_set->Wad,headD_nil->Xae,length_append->Faa,length_take->iab,map_cons->vaa,mem_append->Saa,mem_cons->lab,mem_range->Eac,range->xaa,replicate->oaa,set_comm->aaf,size_toArray->wab,tail_nil->baf,take_succ_cons->yab
open List.cons renaming injEq->Iad
open Nat renaming beq->Tae,le_refl->Haa,le_total->faf,le_trans->Qab,lt_of_lt_of_le->jab,lt_or_ge->dac,strongRecOn->Jad,zero_add->Jab
open Option renaming bind_eq_some_iff->jac,getD_some->Nab,map_eq_some_iff->paa
open Option.some renaming injEq->Vaa
open Prod.mk renaming injEq->Naa
set_option linter.all false
namespace Go.Tm
open Go.RowKit (Below)
variable {K:Exit->St->Prop}{s s' sc s0:St}{code:Code}{i b S j n id k p Ma:Nat}{l:List RI}{cuts:List Nat}{d:D}{t:TypeId}{X:Type}{x y:Operand}{F:Nat->Prop}{a:Act}{L:Nat->Bool}{e:Ent}{ops:Array Oper}{o:Oper}{r:RI}{listed:Array Bool}{os:List (D×List Ent)}{z:Value}
section
variable {P:Program}
structure StepN (N:Nat) (G:Gh) (w:World) (m:List Ent) (G':Gh) (w':World) (m':List Ent):Prop where
 F:∀b,G.F b->G'.F b
 heap:∀b,G.F b->w'.heap[b]?=w.heap[b]?
 n:N<=G'.n
 id:∀i,i<N->(G'.V i=G.V i/\G'.B i=G.B i/\G'.S i=G.S i/\G'.N i=G.N i/\G'.C i=G.C i)\/G.V i<G'.V i
 os:w'.os=w.os
 tape:w'.tape=w.tape
 output:w'.output=w.output
 size:w.heap.size<=w'.heap.size
 keep:∀b,b<w.heap.size->¬Bf G m b->w'.heap[b]?=w.heap[b]?
 newF:∀b,b<w.heap.size->G'.F b->G.F b\/Bf G m b
 newB:∀b,b<w.heap.size->Bf G' m' b->Bf G m b
theorem Step.T5{N:Nat}{G G':Gh}{w w':World}{m m':List Ent}(h:Step G w m G' w' m') (hN:N<=G.n):StepN N G w m G' w' m':=
 ⟨h.le.F,h.le.heap,Qab hN h.le.n,λi hi=>h.le.id i (jab hi hN),h.os,h.tape,h.output,h.size,h.keep,h.newF,h.newB⟩
theorem StepN.toStep{G G':Gh}{w w':World}{m m':List Ent}(h:StepN G.n G w m G' w' m'):Step G w m G' w' m':=
 ⟨⟨h.F,h.heap,h.n,h.id⟩,h.os,h.tape,h.output,h.size,h.keep,h.newF,h.newB⟩
theorem StepN.refl{N:Nat}(G:Gh) (w:World) (m:List Ent) (hN:N<=G.n):StepN N G w m G w m:=(Step.refl G w m).T5 hN
theorem StepN.trans{N:Nat}{G G' a:Gh}{w w' d:World}{m m' c:List Ent}(h:StepN N G w m G' w' m') (k:StepN N G' w' m' a d c):StepN N G w m a d c where
 F b hb:=k.F b (h.F b hb)
 heap b hb:=(k.heap b (h.F b hb)).trans (h.heap b hb)
 n:=k.n
 id i hi:=by
  have h1:=h.id i hi;have h2:=k.id i hi
  grind
 os:=k.os.trans h.os
 tape:=k.tape.trans h.tape
 output:=k.output.trans h.output
 size:=Qab h.size k.size
 keep b hb ho:=(k.keep b (jab hb h.size) λh'=>ho (h.newB b hb h')).trans (h.keep b hb ho)
 newF b hb e:=by
  rcases k.newF b (jab hb h.size) e with h'|h'
  .exact h.newF b hb h'
  .exact .inr (h.newB b hb h')
 newB b hb h':=h.newB b hb (k.newB b (jab hb h.size) h')
def T(P:Program) (N:Nat) (c:C) (K:Exit->St->Prop) (s:St):Prop:=
 ∀code,comp P code=some c->∀(G:Gh) (w:World) (a:Act),N<=G.n->Rel G w a s->
  code.wp P (λe a' w'=>∃s' G',K e s'/\Rel G' w' a' s'/\StepN N G w s.m G' w' s'.m) a w
variable {N:Nat}
theorem T.mono{c:C}{K':Exit->St->Prop}(h:T P N c K s) (d:∀e s',K e s'->K' e s'):T P N c K' s:=
 λcode hc G w a hN hr=>Code.wp_mono (λ_ _ _ ⟨s',G',b,h2⟩=>⟨s',G',d _ _ b,h2⟩) (h code hc G w a hN hr)
theorem T.ghost{c:C}(j:∀(G:Gh) (w:World) (a:Act),N<=G.n->Rel G w a s->∃G',Rel G' w a s'/\StepN N G w s.m G' w s'.m) (h:T P N c K s'):T P N c K s:=by
 intro code hc G w a hN hr;obtain⟨G',e,b⟩:=j G w a hN hr;exact Code.wp_mono (λ_ _ _ ⟨f,d,g,h2,i⟩=>⟨f,d,g,h2,b.trans i⟩) (h code hc G' w a b.n e)
theorem yU(h:comp P code=some .skip):code=.skip\/∃l,code=.label l:=by
 cases code with
 |region id ops draw=>
  cases draw with
  |false=>simp[comp]at h
  |true=>grind[comp]
 |seq a b=>grind[comp]
 |cond c a b=>grind[comp]
 |skip=>simp
 |label l=>simp
 |_=>simp[comp]at h
theorem DY(h:comp P code=some .ret):code=.ret:=by
 cases code with
 |region id ops draw=>
  cases draw with
  |false=>simp[comp]at h
  |true=>grind[comp]
 |seq a b=>grind[comp]
 |cond c a b=>grind[comp]
 |ret=>rfl
 |_=>simp[comp]at h
theorem wU(h:comp P code=some (.exit i)):code=.exit i:=by
 cases code with
 |region id ops draw=>
  cases draw with
  |false=>simp[comp]at h
  |true=>grind[comp]
 |seq a b=>grind[comp]
 |cond c a b=>grind[comp]
 |exit j=>grind[comp]
 |_=>simp[comp]at h
theorem ZL(h:comp P code=some (.QK l)):∃id ops,code=.region id ops false/\Hg P ops ops.toList=some l:=by
 cases code with
 |region id ops draw=>
  cases draw with
  |true=>grind[comp]
  |false=>simp[comp]at h;grind
 |seq a b=>grind[comp]
 |cond c a b=>grind[comp]
 |_=>simp[comp]at h
theorem qC{q:Nat}(h:comp P code=some (.draw q l)):∃id ops,code=.region id ops true/\Hg P ops ops.toList=some l/\uC (ub ops) l q=true:=by
 cases code with
 |region id ops draw=>
  cases draw with
  |false=>simp[comp]at h
  |true=>
   simp only[comp]at h
   grind
 |seq a b=>grind[comp]
 |cond c a b=>grind[comp]
 |_=>simp[comp]at h
theorem CY{q:Nat}{bs:List (List Nat)}(h:comp P code=some (.any cuts q bs l)):∃id ops,code=.region id ops true/\bs=ub ops/\Hg P ops ops.toList=some l/\dL (ub ops) l cuts q=true:=by
 cases code with
 |region id ops draw=>
  cases draw with
  |false=>simp[comp]at h
  |true=>
   simp only[comp]at h
   grind
 |seq a b=>grind[comp]
 |cond c a b=>grind[comp]
 |_=>simp[comp]at h
theorem EY{c d:C}(h:comp P code=some (.seq c d)):∃x y,code=.seq x y/\comp P x=some c/\comp P y=some d:=by
 cases code with
 |region id ops draw=>
  cases draw with
  |false=>simp[comp]at h
  |true=>grind[comp]
 |seq a b=>
  simp only[comp]at h
  grind
 |cond c a b=>grind[comp]
 |_=>simp[comp]at h
theorem vU{t:Operand}{c d:C}(h:comp P code=some (.cond t c d)):∃x y,code=.cond t x y/\comp P x=some c/\comp P y=some d:=by
 cases code with
 |region id ops draw=>
  cases draw with
  |false=>simp[comp]at h
  |true=>grind[comp]
 |seq a b=>grind[comp]
 |cond t' a b=>
  grind[comp]
 |_=>simp[comp]at h
theorem mP{c:C}(h:comp P code=some (.block i c)):∃x,code=.block i x/\comp P x=some c:=by
 cases code with
 |region id ops draw=>
  cases draw with
  |false=>simp[comp]at h
  |true=>grind[comp]
 |seq a b=>grind[comp]
 |cond c a b=>grind[comp]
 |block j b=>simp_all[comp]
 |_=>simp[comp]at h
theorem xU{c:C}(h:comp P code=some (.loop c)):∃x,code=.loop x/\comp P x=some c:=by
 cases code with
 |region id ops draw=>
  cases draw with
  |false=>simp[comp]at h
  |true=>grind[comp]
 |seq a b=>grind[comp]
 |cond c a b=>grind[comp]
 |loop b=>simp[comp]at h;simp_all
 |_=>simp[comp]at h
theorem T.skip{K:Exit->St->Prop}{s:St}(h:K .normal s):T P N .skip K s:=by
 intro code hc G w a hN hr;rcases yU hc with rfl|⟨l,rfl⟩
 all_goals grind[wp_skip,StepN.refl,wp_label]
theorem T.ret{K:Exit->St->Prop}{s:St}(h:K .ret s):T P N .ret K s:=by
 intro code hc G w a hN hr;obtain rfl:=DY hc
 grind[wp_ret,StepN.refl]
theorem T.exit{id:Nat}{K:Exit->St->Prop}{s:St}(h:K (.exit id) s):T P N (.exit id) K s:=by
 intro code hc G w a hN hr;obtain rfl:=wU hc
 grind[wp_exit,StepN.refl]
theorem T.QK{l:List RI}{K:Exit->St->Prop}{s:St}(h:wj P l (K .normal) s):T P N (.QK l) K s:=by
 intro code hc G w a hN hr;obtain⟨id,ops,rfl,b⟩:=ZL hc;exact wp_region_list (jA b h hr λs' G' w' a' c h2 d=>⟨s',G',c,h2,d.T5 hN⟩)
theorem T.seq{c d:C}{K:Exit->St->Prop}{s:St}(h:T P N c (λe s'=>match e with|.normal=>T P N d K s'|e=>K e s') s):T P N (.seq c d) K s:=by
 intro code hc G w a hN hr;obtain⟨x,y,rfl,k,h2⟩:=EY hc;refine wp_seq (Code.wp_mono ?_ (h x k G w a hN hr));rintro e a' w' ⟨s',G',j,f,b⟩
 cases e with
 |normal=>exact Code.wp_mono (λ_ _ _ ⟨i,g,l,m,k3⟩=>⟨i,g,l,m,b.trans k3⟩) (j y h2 G' w' a' b.n f)
 |_=>exact⟨s',G',j,f,b⟩
theorem T.cond{c:Operand}{x y:C}{t:Bool}{K:Exit->St->Prop}{s:St}(ht:s.ev c=.v (.bool t)) (b:t=true->T P N x K s) (h2:t=false->T P N y K s):T P N (.cond c x y) K s:=by
 intro code hc G w a hN hr;obtain⟨d,f,rfl,e1,e2⟩:=vU hc;have hv:=hr.ev c;rw[ht]at hv;simp only[VRel]at hv;exact wp_cond_split hv (λe=>b e d e1 G w a hN hr) (λe=>h2 e f e2 G w a hN hr)
theorem T.block{id:Nat}{x:C}{K:Exit->St->Prop}{s:St}(h:T P N x (λe s'=>match e with|.exit c=>if c=id then K .normal s' else K (.exit c) s'|e=>K e s') s):T P N (.block id x) K s:=by
 intro code hc G w a hN hr;obtain⟨b,rfl,hx⟩:=mP hc;refine wp_block (Code.wp_mono ?_ (h b hx G w a hN hr));rintro e a' w' ⟨s',G',g,d,f⟩
 cases e with
 |exit j=>
  simp only[Exit.inBlock]
  grind
 |_=>exact⟨s',G',g,d,f⟩
theorem wp_loop_ghost{c:Code}{Q:Exit->Act->World->Prop}(J:X->Act->World->Prop) (μ:X->Nat)
 (round:∀x a w,J x a w->c.wp P (Exit.then (λa' w'=>∃y,J y a' w'/\μ y<μ x) Q) a w):∀(x:X) (a:Act) (w:World),J x a w->(Code.loop c).wp P Q a w:=by
 intro x₀ a₀ w₀ h₀ b k cs;have key:∀n (x:X) a w,μ x=n->J x a w->
  ∃e a' w',Q e a' w'/\Arrives P (lone (b.at a (.code c::.inLoop c::k)) cs w) b k cs e a' w':=by
  intro n
  induction n using Jad with
  |_ n h=>
   intro x a w hn g;obtain⟨e,a₁,w₁,hq,d⟩:=round x a w g b (.inLoop c::k) cs
   cases e with
   |normal=>
    obtain⟨y,hI₁,f⟩:=hq;obtain⟨e₂,a₂,w₂,hq₂,harr₂⟩:=h (μ y) (hn▸f) y a₁ w₁ rfl hI₁;exact⟨e₂,a₂,w₂,hq₂,.of_steps (Steps.trans d (.one step_inLoop)) harr₂⟩
   |exit id=>exact⟨_,a₁,w₁,hq,.pass (x:=.inLoop c) rfl (λ_ _=>.inl (by simp)) d⟩
   |goto l=>exact⟨_,a₁,w₁,hq,.pass (x:=.inLoop c) rfl (λ_ _=>.inl (by simp)) d⟩
   |ret=>exact⟨_,a₁,w₁,hq,.pass (x:=.inLoop c) rfl (λ_ _=>.inl (by simp)) d⟩
   |panic ch=>exact⟨_,a₁,w₁,hq,.pass (x:=.inLoop c) rfl (λ_ _=>.inl (by simp)) d⟩
   |outgrown=>exact⟨_,a₁,w₁,hq,.pass (x:=.inLoop c) rfl (λ_ _=>.inl (by simp)) d⟩
 obtain⟨e,a',w',hq,d⟩:=key _ x₀ a₀ w₀ rfl h₀;exact⟨e,a',w',hq,.of_steps (.one step_loop) d⟩
theorem T.loopI{x:C}(J:X->St->Prop) (μ:X->Nat) (x₀:X) (j:J x₀ s)
 (round:∀y s,J y s->T P N x (λe s'=>match e with|.normal=>∃z,J z s'/\μ z<μ y|e=>K e s') s):T P N (.loop x) K s:=by
 intro code hc G w a hN hr;obtain⟨b,rfl,hx⟩:=xU hc;refine wp_loop_ghost (J:=λ(y:X) a' w'=>∃s' G',J y s'/\Rel G' w' a' s'/\StepN N G w s.m G' w' s'.m) μ ?_ x₀ a w ⟨s,G,j,hr,StepN.refl _ _ _ hN⟩;rintro y a1 o ⟨s1,i,l,g,c⟩;refine Code.wp_mono ?_ (round y s1 l b hx i o a1 c.n g);rintro e a' w' ⟨s',G',h,d,f⟩
 cases e with
 |normal=>obtain⟨z,k,h2⟩:=h;exact⟨z,⟨s',G',k,d,c.trans f⟩,h2⟩
 |_=>exact⟨s',G',h,d,c.trans f⟩
def Du(s:St):RV->Option D
 |.tmp t=>some (s.t.getD t .dead)
 |.cell A n a=>
  match da s (.load A n (.tmp a))with
  |some (d,_)=>some d
  |none=>none
def yb(s:St):List RV->Option (List D)
 |[]=>some []
 |r::l=>
  match Du s r,yb s l with
  |some d,some ds=>some (d::ds)
  |_,_=>none
def qo:List D->D
 |[d]=>d
 |l=>.tup l
def SK(tmps:Array Value):ResultVar->Sem Value
 |.tmp t=>pure (tmps.getD t undef)
 |.cell a t=>do loadVar t (←asAddr (tmps.getD a undef))
theorem CQ(fn:Func) (tmps:Array Value):results fn tmps=(do let vs←fn.results.mapM (SK tmps);pure (if h:vs.size=1 then vs[0]else .tuple vs)):=by
 unfold results;rfl
theorem MN:∀{l:List ResultVar}{rl:List RV}{s:St}{G:Gh}{w:World}{a:Act}{ds:List D},sw P l=some rl->Rel G w a s->yb s rl=some ds->
 ∃us:List Value,(l.mapM (SK a.tmps)).run P w=.ok us w/\VsRel G w ds us
 |[],rl,s,G,w,a,ds,hc,hr,hd=>by
  simp only[sw]at hc;injection hc with hc;subst hc;simp only[yb]at hd;injection hd with hd;subst hd;exact⟨[],by simp,by simp[VsRel]⟩
 |r::l,rl,s,G,w,a,ds,hc,hr,hd=>by
  simp only[sw]at hc;split at hc
  .rename_i x y c h2;injection hc with hc;subst hc;simp only[yb]at hd;split at hd
   .rename_i d ds' b f;injection hd with hd;subst hd;obtain⟨us,hrun,hv⟩:=MN h2 hr f
    cases r with
    |tmp t=>
     simp only[lP]at c;injection c with c;subst c;simp only[Du]at b;injection b with b;subst b;have hx:=hr.ev (.tmp t);simp only[St.ev,Act.eval]at hx;refine⟨a.tmps.getD t undef::us,?_,by simp only[VsRel];grind⟩
     grind[SK,Sem.run_bind,Sem.run_pure,Result.andThen_ok]
    |cell p t=>
     simp only[lP,paa]at c;obtain⟨q,hq,rfl⟩:=c;simp only[Du]at b;split at b
     .rename_i e m0 he;injection b with b;subst b;obtain⟨ad,u,g,hrl,hvd,-⟩:=pG (P:=P) hr hq he;simp only[Act.eval]at g;refine⟨u::us,?_,by simp only[VsRel];grind⟩
      grind[SK,asAddr,Sem.run_bind,Sem.run_pure,Result.andThen_ok]
     simp_all
   simp_all
  simp_all
def Mz(rs:List RV) (R:D->List Ent->Prop):Exit->St->Prop
 |.normal,s=>∃ds,yb s rs=some ds/\R (qo ds) s.m
 |.ret,s=>∃ds,yb s rs=some ds/\R (qo ds) s.m
 |_,_=>False
theorem tup_rel{G:Gh}{w:World}{ds:List D}{us:List Value}(h:VsRel G w ds us):VRel G w (qo ds) (if h:us.toArray.size=1 then us.toArray[0]else .tuple us.toArray):=by
 match ds,h with
 |[],h=>
  simp only[VsRel]at h;subst h;simp only[wab,List.length_nil,qo];rw[dif_neg (by decide)];simp only[VRel,VsRel];simp
 |[d],h=>
  simp only[VsRel]at h;obtain⟨u,r,rfl,hv,rfl⟩:=h
  grind[qo]
 |d::e::l,h=>
  have hl:=h.length;rw[dif_neg (by simp_all)];simp only[qo,VRel]
  simp_all
theorem SD{fn:Func}{F:Fun}{G:Gh}{w:World}{ds:List D}(hc:sw P fn.results.toList=some F.results) (hr:Rel G w a s) (hd:yb s F.results=some ds) :
 ∃v,(results fn a.tmps).run P w=.ok v w/\VRel G w (qo ds) v:=by
 obtain⟨us,hrun,hv⟩:=MN hc hr hd;refine⟨_,?_,tup_rel hv⟩
 grind[CQ,Array.mapM_eq_mapM_toList,Sem.run_bind,Sem.run_map,Result.andThen_ok,Sem.run_pure]
theorem kL(G:Gh) (w:World):∀n,VsRel G w (oaa n .dead) (oaa n undef)
 |0=>by simp[VsRel]
 |n+1=>by simp only[List.replicate_succ,VsRel];exact⟨_,_,rfl,by simp[VRel],kL G w n⟩
theorem Uj{f:FuncId}{F:Fun}{ds:List D}{m:List Ent}{R:D->List Ent->Prop}(g:Hv P f=some F) (hname:((P.funcs[f]?).map λfn=>fn.name == "runtime.NumGoroutine")=some false)
 (h:T P m.length F.code (Mz F.results R) ⟨ds++oaa (F.ntmps-ds.length) .dead,m⟩):CallT P f ds m R:=by
 unfold Hv at g;split at g
 .rename_i fn i;split at g
  .rename_i b r hb k;simp only[paa]at g;obtain⟨c,hc,rfl⟩:=g;refine⟨⟨fn,i,by simp_all,by simp_all⟩,λG w vs hv hi=>?_⟩;refine calls_of_wp i hb ?_;have j:=hv.length;have hr:Rel G w { tmps:=vs.toArray++eac (fn.ntmps-vs.toArray.size) undef,defers:=[] } ⟨ds++oaa (fn.ntmps-ds.length) .dead,m⟩:=by
    refine⟨?_,hi,rfl⟩;simp only[Array.toList_append,Array.toList_replicate,wab,j];exact hv.append (kL _ _ _)
   refine Code.wp_mono ?_ (h b hc G w _ (by rw[hi.n];omega) hr);rintro e a' w' ⟨s',G',p,a,o⟩;have s:Step G w m G' w' s'.m:=by rw[←hi.n]at o;exact o.toStep
   have fin:(∃ds,yb s' r=some ds/\R (qo ds) s'.m)->a'.defers=[]/\∃v,(results fn a'.tmps).run P w'=.ok v w'/\∃v_1 d m' G',Ending.returned v=.returned v_1/\R d m'/\VRel G' w' d v_1/\Inv G' w' m'/\Step G w m G' w' m':=by
    rintro⟨es,q,u⟩;obtain⟨v,l,t⟩:=SD (F:=⟨fn.ntmps,r,c⟩) k a q;exact⟨a.defers,v,l,v,_,_,G',rfl,u,t,a.inv,s⟩
   cases e with
   |normal=>exact fin p
   |ret=>exact fin p
   |_=>exact p.elim
  simp_all
 simp_all
end
structure SubF (G:Gh) (w:World) (G':Gh) (w':World):Prop where
 F:∀b,G.F b->G'.F b
 heap:∀b,G.F b->w'.heap[b]?=w.heap[b]?
mutual
theorem VRel.free{G G':Gh}{w w':World}(c:SubF G w G' w'):∀{d:D}{u:Value},pa d=true->VRel G w d u->VRel G' w' d u
 |.v x,u,_,h=>by simpa [VRel] using h
 |.agg l,u,hf,h=>by
  simp only[VRel,pa]at h hf⊢;obtain⟨cs,rfl,h,g⟩:=h;exact⟨cs,rfl,VsRel.free c hf h,g⟩
 |.tup l,u,hf,h=>by
  simp only[VRel,pa]at h hf⊢;obtain⟨cs,rfl,h⟩:=h;exact⟨cs,rfl,VsRel.free c hf h⟩
 |.sl S l,u,hf,h=>by
  simp only[VRel,pa]at h hf⊢;obtain⟨a,n,cap,rfl,hn,hc,h⟩:=h;refine⟨a,n,cap,rfl,hn,hc,?_⟩;rcases h with h|⟨b,off,rfl,e,hr⟩
  .simp_all
  .exact .inr ⟨b,off,rfl,c.F b e,Na.free c (c.heap b e) hf hr⟩
 |.pt d,u,hf,h=>by
  simp only[VRel,pa]at h hf⊢;obtain⟨b,off,x,rfl,e,hd,i⟩:=h;exact⟨b,off,x,rfl,c.F b e,VRel.free c hf hd,i.mono (c.heap b e)⟩
 |.fn f first caps,u,hf,h=>by
  simp only[VRel,pa,zaa]at h hf⊢;obtain⟨fs,cs,rfl,g,h2⟩:=h;exact⟨fs,cs,rfl,VsRel.free c hf.1 g,VsRel.free c hf.2 h2⟩
 |.ifc t d,u,hf,h=>by
  simp only[VRel,pa]at h hf⊢;obtain⟨x,rfl,h⟩:=h;exact⟨x,rfl,VRel.free c hf h⟩
 |.dead,u,_,h=>by simp[VRel]
 |.ref ..,_,hf,_=>by grind[pa]
 |.own ..,_,hf,_=>by grind[pa]
 |.view ..,_,hf,_=>by grind[pa]
 |.mp _,_,hf,_=>by grind[pa]
theorem VsRel.free{G G':Gh}{w w':World}(a:SubF G w G' w'):∀{l:List D}{us:List Value},fa l=true->VsRel G w l us->VsRel G' w' l us
 |[],us,_,h=>by simpa [VsRel] using h
 |d::l,us,hf,h=>by
  simp only[VsRel,fa,zaa]at h hf⊢;obtain⟨u,r,rfl,b,h2⟩:=h;exact⟨u,r,rfl,VRel.free a hf.1 b,VsRel.free a hf.2 h2⟩
theorem Na.free{G G':Gh}{w w':World}(a:SubF G w G' w') {b S:Nat}(hb:w'.heap[b]?=w.heap[b]?) :
 ∀{l:List D} {off:Nat},fa l=true->Na G w b S l off->Na G' w' b S l off
 |[],off,_,h=>by simp[Na]
 |d::l,off,hf,h=>by
  simp only[Na,fa,zaa]at h hf⊢;obtain⟨⟨u,c,h2,e⟩,f⟩:=h;exact⟨⟨u,VRel.free a hf.1 c,h2,e.mono hb⟩,Na.free a hb hf.2 f⟩
end
def Af:Nat->List Ent->D->D
 |0,_,_=>.dead
 |k+1,m,d=>
  match d with
  |.agg l=>.agg (l.map (Af k m))
  |.tup l=>.tup (l.map (Af k m))
  |.sl S l=>if fa l then d else .sl S (l.map (Af k m))
  |.pt d=>.pt (Af k m d)
  |.own id Ma=>
   match m[id]? with
   |some (.live S c l)=>if c=Ma then .sl S (if fa l then l else l.map (Af k m))else .dead
   |_=>.dead
  |.view id Ma lo n=>
   match m[id]? with
   |some (.live S c l)=>if c=Ma/\lo+n<=l.length then .sl S (((if fa l then l else l.map (Af k m)).drop lo).take n)else .dead
   |_=>.dead
  |.ref id Ma x s=>
   match m[id]? with
   |some (.live _ c l)=>if c=Ma/\s=0 then(match l[x]? with|some e=>.pt (Af k m e)|none=>.dead)else .dead
   |_=>.dead
  |.fn f a b=>.fn f (a.map (Af k m)) (b.map (Af k m))
  |.v x=>.v x
  |_=>.dead
theorem BD{f:D->D}(h:∀d,pa (f d)=true):∀l:List D,fa (l.map f)=true
 |[]=>rfl
 |d::l=>by simp[fa,h d,BD h l]
theorem aj:∀{l:List D},fa l=true↔∀d∈l,pa d=true
 |[]=>by simp[fa]
 |d::l=>by simp[fa,aj (l:=l)]
theorem Ry:∀(k:Nat) (m:List Ent) (d:D),pa (Af k m d)=true
 |0,m,d=>rfl
 |k+1,m,d=>by
  have ih:=BD (Ry k m)
  cases d with
  |agg l=>grind[Af,pa]
  |tup l=>grind[Af,pa]
  |sl S l=>
   grind[Af,pa]
  |pt d=>simpa [Af,pa] using Ry k m d
  |own id Ma=>
   grind[Af,pa]
  |view id Ma lo n=>
   grind[Af,pa,aj]
  |ref id Ma x s=>
   simp only[Af];split
   .split
    .split
     .simpa [pa] using Ry k m _
     .rfl
    .rfl
   .rfl
  |fn f a b=>grind[Af,pa]
  |_=>rfl
def Gh.Af(G:Gh) (m:List Ent):Gh:={ G with F:=λb=>G.F b\/Bf G m b }
theorem fy{G:Gh}{w:World}{m:List Ent}:SubF G w (G.Af m) w:=⟨λ_ h=>.inl h,λ_ _=>rfl⟩
theorem ur{G:Gh}{w:World}{G':Gh}{f:D->D}(h:∀d u,VRel G w d u->VRel G' w (f d) u):∀{l:List D}{us:List Value},VsRel G w l us->VsRel G' w (l.map f) us
 |[],us,hv=>by simpa [VsRel] using hv
 |d::l,us,hv=>by
  simp only[VsRel,vaa]at hv⊢;obtain⟨u,r,rfl,a,h2⟩:=hv;exact⟨u,r,rfl,h d u a,ur h h2⟩
theorem Ks{G:Gh}{w:World}{G':Gh}{f:D->D}(h:∀d u,VRel G w d u->VRel G' w (f d) u) {b S:Nat}:∀{l:List D}{off:Nat},Na G w b S l off->Na G' w b S (l.map f) off
 |[],off,hv=>by simp[Na]
 |d::l,off,hv=>by
  simp only[Na,vaa]at hv⊢;obtain⟨⟨u,a,h2,c⟩,e⟩:=hv;exact⟨⟨u,h d u a,h2,c⟩,Ks h e⟩
theorem HM{G:Gh}{w:World}{m:List Ent}(hi:Inv G w m):∀(k:Nat) (d:D) (u:Value),VRel G w d u->VRel (G.Af m) w (Af k m d) u
 |0,d,u,_=>by simp[Af,VRel]
 |k+1,d,u,hv=>by
  have y:=HM hi k
  cases d with
  |v x=>simpa [Af,VRel] using hv
  |agg l=>
   simp only[Af,VRel]at hv⊢;obtain⟨cs,rfl,A,h2⟩:=hv;exact⟨cs,rfl,ur y A,h2⟩
  |tup l=>
   simp only[Af,VRel]at hv⊢;obtain⟨cs,rfl,A⟩:=hv;exact⟨cs,rfl,ur y A⟩
  |sl S l=>
   simp only[Af];split
   .rename_i hf;exact hv.free fy (by grind[pa])
   .simp only[VRel]at hv⊢;obtain⟨a,n,cap,rfl,hn,hc,h⟩:=hv;refine⟨a,n,cap,rfl,by simp_all,hc,?_⟩;rcases h with h|⟨b,off,rfl,z,hr⟩
    .simp_all
    .exact .inr ⟨b,off,rfl,.inl z,Ks y hr⟩
  |pt d=>
   simp only[Af,VRel]at hv⊢;obtain⟨b,off,x,rfl,z,hd,K⟩:=hv;exact⟨b,off,x,rfl,.inl z,y d x hd,K⟩
  |own id Ma=>
   simp only[Af];split
   .rename_i S r l hm;split
    .rename_i j;subst j;simp only[VRel]at hv⊢;obtain⟨p,n,c,rfl,B,q,hx⟩:=hv;obtain⟨a1,a2,a3,a4,a5⟩:=hi.ent _ _ hm;obtain⟨rfl,rfl,rfl⟩:=hx a1;have E:(if fa l=true then l else l.map (Af k m)).length=l.length:=by grind
     refine⟨_,_,_,rfl,by omega,by omega,?_⟩
     .rcases a5 with a5|⟨H,cs,T,g,z,o,F,i⟩
      .simp_all
      .refine .inr ⟨H,(G.C id).2,by simp_all,.inr ⟨id,_,hm,rfl,g⟩,?_⟩;split
       .rename_i hf;exact i.free fy rfl hf
       grind[Ks]
    .simp[VRel]
   .simp[VRel]
  |view id Ma lo n=>
   simp only[Af];split
   .rename_i S r l hm;split
    .rename_i j;obtain⟨rfl,hle⟩:=j;simp only[VRel]at hv⊢;obtain⟨p,c,rfl,I,B,q,hx⟩:=hv;obtain⟨a1,a2,a3,a4,a5⟩:=hi.ent _ _ hm;have E:(if fa l=true then l else l.map (Af k m)).length=l.length:=by grind
     have t:(((if fa l=true then l else l.map (Af k m)).drop lo).take n).length=n:=by
      grind
     refine⟨p,n,c,rfl,t.symm,I,?_⟩
     .rcases hx a1 with rfl|⟨b,hb,rfl⟩
      .simp
      .rcases a5 with a5|⟨H,cs,T,g,z,o,F,i⟩
       .simp_all
       .rw[hb]at g;injection g with g;subst g;refine .inr ⟨b,lo*S+(G.C id).2,by rw[a2],.inr ⟨id,_,hm,rfl,hb⟩,?_⟩;have:Na (G.Af m) w b S (if fa l=true then l else l.map (Af k m)) (G.C id).2:=by
         split
         .rename_i hf;exact i.free fy rfl hf
         grind[Ks]
        grind[nu,lu]
    .simp[VRel]
   .simp[VRel]
  |ref id Ma x s=>
   simp only[Af];split
   .rename_i S r l hm;split
    .rename_i j;obtain⟨rfl,rfl⟩:=j;split
     .rename_i e he;simp only[VRel]at hv⊢;obtain⟨p,rfl,B,q,hx⟩:=hv;obtain⟨a1,a2,a3,a4,a5⟩:=hi.ent _ _ hm;obtain⟨b,hb,rfl⟩:=hx a1;rcases a5 with a5|⟨H,cs,T,g,z,o,F,i⟩
      .simp_all
      .rw[hb]at g;injection g with g;subst g;obtain⟨J,g1,g2,g3⟩:=Se.1 i x e he;refine⟨b,_,J,rfl,.inr ⟨id,_,hm,rfl,hb⟩,y e J g1,?_⟩
       grind
     .simp[VRel]
    .simp[VRel]
   .simp[VRel]
  |fn f a b=>
   simp only[Af,VRel]at hv⊢;obtain⟨fs,cs,rfl,A,h2⟩:=hv;exact⟨fs,cs,rfl,ur y A,ur y h2⟩
  |_=>simp[Af,VRel]
def Gh.bare(F:Nat->Prop):Gh:=⟨F,0,λ_=>none,λ_=>0,λ_=>0,λ_=>0,λ_=>(0,0)⟩
theorem uV{g:Nat}(h:gtab g=some d):pa d=true:=by
 unfold gtab at h;split at h
 .injection h with h;subst h;rfl
 .cases h
theorem GOK.bare{G G':Gh}{w:World}(h:GOK G w) (a:∀b,G.F b->G'.F b):GOK G' w:=λg d hd=>
 VRel.free (G:=G) (G':=G') ⟨a,λ_ _=>rfl⟩ (d:=.pt d) (by grind[pa,uV]) (h g d hd)
theorem aB{w:World}(h:∀b,F b->b<w.heap.size) (a:GOK (Gh.bare F) w):Inv (Gh.bare F) w []:=
 ⟨rfl,h,λi e he=>by simp at he,λi j e e' he=>by simp,a⟩
theorem Uy{G:Gh}:¬Bf G [] b:=λ⟨i,e,he,_⟩=>by simp at he
theorem AI{G G':Gh}{w w':World}{m m':List Ent}(hi:Inv G w m) (d:Step (Gh.bare F) w [] G' w' m') (l:Inv G' w' m') (o:∀b,G.F b->F b) :
 (∀b,b<w.heap.size->w'.heap[b]?=w.heap[b]?)/\
 (Inv G w' m/\Step G w m G w' m)/\
 ((∀b,F b->G.F b)->Inv { G with F:=λb=>G'.F b\/Bf G' m' b } w' m/\Step G w m { G with F:=λb=>G'.F b\/Bf G' m' b } w' m):=by
 have a:∀b,b<w.heap.size->w'.heap[b]?=w.heap[b]?:=λb hb=>d.keep b hb Uy;have f:∀i x,m[i]?=some x->x.isLive=true->∀k,G.B i=some k->k<w.heap.size:=λi x hx hl k hk=>((hi.ent i x hx).lt hl hk).1;refine⟨a,?_,λj=>?_⟩
 .have c:Le G w G w':=⟨λ_ h=>h,λb hb=>a b (hi.F b hb),Haa _,λ_ _=>.inl ⟨rfl,rfl,rfl,rfl,rfl⟩⟩;refine⟨⟨hi.n,λb hb=>jab (hi.F b hb) d.size,λi e he=>?_,hi.apart,hi.gl.mono c⟩,⟨c,d.os,d.tape,d.output,d.size,λb hb _=>a b hb,λ_ _ h=>.inl h,λ_ _ h=>h⟩⟩;by_cases hl:e.isLive=true
  .exact(hi.ent i e he).mono c ⟨rfl,rfl,rfl,rfl,rfl⟩ (λb hb=>a b (f i e he hl b hb)) (λ_ _ _ h=>h)
  .cases e with
   |gone=>trivial
   |_=>grind[Ent.isLive]
 .have c:Le G w { G with F:=λb=>G'.F b\/Bf G' m' b } w':=⟨λb h=>.inl (d.le.F b (o b h)),λb hb=>a b (hi.F b hb),Haa _,λ_ _=>.inl ⟨rfl,rfl,rfl,rfl,rfl⟩⟩;have g:∀b,b<w.heap.size->(G'.F b\/Bf G' m' b)->G.F b:=by
   intro b hb h;rcases h with h|h
   .rcases d.newF b hb h with h|h
    .exact j b h
    grind[Uy]
   .exact(Uy (d.newB b hb h)).elim
  refine⟨⟨hi.n,?_,λi e he=>?_,hi.apart,hi.gl.mono c⟩,⟨c,d.os,d.tape,d.output,d.size,λb hb _=>a b hb,λb hb h=>.inl (g b hb h),λ_ _ h=>h⟩⟩
  .rintro b (h|h)
   .exact l.F b h
   grind[Bf.lt]
  .by_cases hl:e.isLive=true
   .exact(hi.ent i e he).mono c ⟨rfl,rfl,rfl,rfl,rfl⟩ (λb hb=>a b (f i e he hl b hb)) (λb hb _ h=>g b (f i e he hl b hb) h)
   .cases e with
    |gone=>trivial
    |_=>grind[Ent.isLive]
mutual
def flat:D->Bool
 |.v _=>true
 |.agg l=>VI l
 |.tup l=>VI l
 |.dead=>true
 |_=>false
def VI:List D->Bool
 |[]=>true
 |d::l=>flat d&&VI l
end
mutual
theorem VRel.flat{G G':Gh}{w w':World}:∀{d:D}{u:Value},flat d=true->VRel G w d u->VRel G' w' d u
 |.v x,u,_,h=>by simpa [VRel] using h
 |.agg l,u,hf,h=>by
  simp only[VRel,Tm.flat]at h hf⊢;obtain⟨cs,rfl,h,a⟩:=h;exact⟨cs,rfl,VsRel.flat hf h,a⟩
 |.tup l,u,hf,h=>by
  simp only[VRel,Tm.flat]at h hf⊢;obtain⟨cs,rfl,h⟩:=h;exact⟨cs,rfl,VsRel.flat hf h⟩
 |.dead,u,_,h=>by simp[VRel]
 |.sl ..,_,hf,_=>by grind[Tm.flat]
 |.pt ..,_,hf,_=>by grind[Tm.flat]
 |.fn ..,_,hf,_=>by grind[Tm.flat]
 |.ref ..,_,hf,_=>by grind[Tm.flat]
 |.own ..,_,hf,_=>by grind[Tm.flat]
 |.view ..,_,hf,_=>by grind[Tm.flat]
 |.mp _,_,hf,_=>by grind[Tm.flat]
 |.ifc ..,_,hf,_=>by grind[Tm.flat]
theorem VsRel.flat{G G':Gh}{w w':World}:∀{l:List D}{us:List Value},VI l=true->VsRel G w l us->VsRel G' w' l us
 |[],us,_,h=>by simpa [VsRel] using h
 |d::l,us,hf,h=>by
  simp only[VsRel,VI,zaa]at h hf⊢;obtain⟨u,r,rfl,a,h2⟩:=h;exact⟨u,r,rfl,VRel.flat hf.1 a,VsRel.flat hf.2 h2⟩
end
open Go.RowKit (Below)
mutual
def Sub:D->D->Prop
 |_,.dead=>True
 |.v x,.sl _ l=>x=.slice none 0 0/\l=[]
 |.agg l,.agg r=>la l r
 |.tup l,.tup r=>la l r
 |.sl S l,.sl S' r=>S=S'/\la l r
 |d,e=>d=e
def la:List D->List D->Prop
 |[],r=>r=[]
 |d::l,r=>∃e a,r=e::a/\Sub d e/\la l a
end
theorem la.length:∀{l r:List D},la l r->l.length=r.length
 |[],r,h=>by simp[la]at h;simp[h]
 |d::l,r,h=>by
  simp only[la]at h;obtain⟨e,r',rfl,_,h2⟩:=h;simp[la.length h2]
mutual
theorem Sub.rel{G:Gh}{w:World}:∀{d e:D}{u:Value},Sub d e->VRel G w d u->VRel G w e u
 |d,.dead,u,_,_=>by simp[VRel]
 |.v x,.sl S l,u,f,h=>by
  simp only[Sub]at f;obtain⟨rfl,rfl⟩:=f;simp only[VRel]at h⊢
  grind
 |.agg l,.agg r,u,f,h=>by
  simp only[Sub]at f;simp only[VRel]at h⊢;obtain⟨cs,rfl,h,g⟩:=h;exact⟨cs,rfl,la.rel f h,g⟩
 |.tup l,.tup r,u,f,h=>by
  simp only[Sub]at f;simp only[VRel]at h⊢;obtain⟨cs,rfl,h⟩:=h;exact⟨cs,rfl,la.rel f h⟩
 |.sl S l,.sl S' r,u,f,h=>by
  simp only[Sub]at f;obtain⟨rfl,f⟩:=f;simp only[VRel]at h⊢;obtain⟨a,n,cap,rfl,hn,hc,h⟩:=h;refine⟨a,n,cap,rfl,by rw[←f.length];omega,hc,?_⟩;rcases h with rfl|⟨b,off,rfl,i,hr⟩
  .simp only[la]at f;simp_all
  .exact .inr ⟨b,off,rfl,i,la.row f hr⟩
 |.v x,.v y,u,f,h=>by simp only[Sub]at f;simp_all
 |.v x,.agg y,u,f,h=>by simp only[Sub]at f;grind
 |.v x,.tup y,u,f,h=>by simp only[Sub]at f;grind
 |.v x,.pt y,u,f,h=>by simp only[Sub]at f;grind
 |.v x,.ref ..,u,f,h=>by simp only[Sub]at f;grind
 |.v x,.own ..,u,f,h=>by simp only[Sub]at f;grind
 |.v x,.view ..,u,f,h=>by simp only[Sub]at f;grind
 |.v x,.fn ..,u,f,h=>by simp only[Sub]at f;grind
 |.v x,.mp ..,u,f,h=>by simp only[Sub]at f;grind
 |.v x,.ifc ..,u,f,h=>by simp only[Sub]at f;grind
 |.agg l,.v y,u,f,h=>by simp only[Sub]at f;grind
 |.agg l,.tup y,u,f,h=>by simp only[Sub]at f;grind
 |.agg l,.sl ..,u,f,h=>by simp only[Sub]at f;grind
 |.agg l,.pt y,u,f,h=>by simp only[Sub]at f;grind
 |.agg l,.ref ..,u,f,h=>by simp only[Sub]at f;grind
 |.agg l,.own ..,u,f,h=>by simp only[Sub]at f;grind
 |.agg l,.view ..,u,f,h=>by simp only[Sub]at f;grind
 |.agg l,.fn ..,u,f,h=>by simp only[Sub]at f;grind
 |.agg l,.mp ..,u,f,h=>by simp only[Sub]at f;grind
 |.agg l,.ifc ..,u,f,h=>by simp only[Sub]at f;grind
 |.tup l,.v y,u,f,h=>by simp only[Sub]at f;grind
 |.tup l,.agg y,u,f,h=>by simp only[Sub]at f;grind
 |.tup l,.sl ..,u,f,h=>by simp only[Sub]at f;grind
 |.tup l,.pt y,u,f,h=>by simp only[Sub]at f;grind
 |.tup l,.ref ..,u,f,h=>by simp only[Sub]at f;grind
 |.tup l,.own ..,u,f,h=>by simp only[Sub]at f;grind
 |.tup l,.view ..,u,f,h=>by simp only[Sub]at f;grind
 |.tup l,.fn ..,u,f,h=>by simp only[Sub]at f;grind
 |.tup l,.mp ..,u,f,h=>by simp only[Sub]at f;grind
 |.tup l,.ifc ..,u,f,h=>by simp only[Sub]at f;grind
 |.sl S l,.v y,u,f,h=>by simp only[Sub]at f;grind
 |.sl S l,.agg y,u,f,h=>by simp only[Sub]at f;grind
 |.sl S l,.tup ..,u,f,h=>by simp only[Sub]at f;grind
 |.sl S l,.pt y,u,f,h=>by simp only[Sub]at f;grind
 |.sl S l,.ref ..,u,f,h=>by simp only[Sub]at f;grind
 |.sl S l,.own ..,u,f,h=>by simp only[Sub]at f;grind
 |.sl S l,.view ..,u,f,h=>by simp only[Sub]at f;grind
 |.sl S l,.fn ..,u,f,h=>by simp only[Sub]at f;grind
 |.sl S l,.mp ..,u,f,h=>by simp only[Sub]at f;grind
 |.sl S l,.ifc ..,u,f,h=>by simp only[Sub]at f;grind
 |.pt x,e,u,f,h=>by cases e<;>simp only[Sub]at f<;>first|(simp[VRel];done)|(rw[←f];exact h)|cases f
 |.ref a b c d,e,u,f,h=>by cases e<;>simp only[Sub]at f<;>first|(simp[VRel];done)|(rw[←f];exact h)|cases f
 |.own a b,e,u,f,h=>by cases e<;>simp only[Sub]at f<;>first|(simp[VRel];done)|(rw[←f];exact h)|cases f
 |.view a b c d,e,u,f,h=>by cases e<;>simp only[Sub]at f<;>first|(simp[VRel];done)|(rw[←f];exact h)|cases f
 |.fn a b c,e,u,f,h=>by cases e<;>simp only[Sub]at f<;>first|(simp[VRel];done)|(rw[←f];exact h)|cases f
 |.mp a,e,u,f,h=>by cases e<;>simp only[Sub]at f<;>first|(simp[VRel];done)|(rw[←f];exact h)|cases f
 |.ifc a b,e,u,f,h=>by cases e<;>simp only[Sub]at f<;>first|(simp[VRel];done)|(rw[←f];exact h)|cases f
 |.dead,e,u,f,h=>by cases e<;>simp only[Sub]at f<;>first|(simp[VRel];done)|(rw[←f];exact h)|cases f
theorem la.rel{G:Gh}{w:World}:∀{l r:List D}{us:List Value},la l r->VsRel G w l us->VsRel G w r us
 |[],r,us,a,h=>by simp only[la]at a;subst a;exact h
 |d::l,r,us,a,h=>by
  simp only[la]at a;obtain⟨e,r',rfl,c,h2⟩:=a;simp only[VsRel]at h⊢;obtain⟨u,b,rfl,g1,g2⟩:=h;exact⟨u,b,rfl,Sub.rel c g1,la.rel h2 g2⟩
theorem la.row{G:Gh}{w:World}{b S:Nat}:∀{l r:List D}{off:Nat},la l r->Na G w b S l off->Na G w b S r off
 |[],r,off,a,h=>by simp only[la]at a;subst a;exact h
 |d::l,r,off,a,h=>by
  simp only[la]at a;obtain⟨e,r',rfl,c,h2⟩:=a;simp only[Na]at h⊢;obtain⟨⟨u,g1,g2,g3⟩,g4⟩:=h;exact⟨⟨u,Sub.rel c g1,g2,g3⟩,la.row h2 g4⟩
end
mutual
theorem Sub.refl:∀d:D,Sub d d
 |.v x=>by simp[Sub]
 |.agg l=>by simp only[Sub];exact la.pb l
 |.tup l=>by simp only[Sub];exact la.pb l
 |.sl S l=>by simp only[Sub,true_and];exact la.pb l
 |.pt d=>by simp[Sub]
 |.ref ..=>by simp[Sub]
 |.own ..=>by simp[Sub]
 |.view ..=>by simp[Sub]
 |.fn ..=>by simp[Sub]
 |.mp ..=>by simp[Sub]
 |.ifc ..=>by simp[Sub]
 |.dead=>by simp[Sub]
theorem la.pb:∀l:List D,la l l
 |[]=>by simp[la]
 |d::l=>by simp only[la];exact⟨d,l,rfl,Sub.refl d,la.pb l⟩
end
section
variable {P:Program} {N:Nat}
theorem T.sub{c:C}(t':List D) (a:la s.t t') (h:T P N c K ⟨t',s.m⟩):T P N c K s:=
 T.ghost (s':=⟨t',s.m⟩) (λG w _ hN hr=>⟨G,⟨a.rel hr.t,hr.inv,hr.defers⟩,StepN.refl _ _ _ hN⟩) h
theorem T.Hx{c:C}(i S:Nat) (hi:s.t[i]?=some (.v (.slice none 0 0))) (h:T P N c K ⟨s.t.set i (.own s.m.length 0),s.m++[.live S 0 []]⟩):T P N c K s:=by
 refine T.ghost (λG w a hN hr=>?_) h;have e:=Gx (w':=w) hr.inv none S 0 0 (.live S 0 []) rfl rfl rfl rfl (Haa _) (λ_ _=>rfl) (λk h=>by cases h)
  ⟨by simp[Gh.add],by simp[Gh.add],by simp[Gh.add],by simp,.inl ⟨by simp[Gh.add],by simp[Gh.add]⟩⟩
 refine⟨_,⟨?_,e.1,hr.defers⟩,e.2.T5 hN⟩;have hx:=VsRel.get i hr.t;rw[iad,hi]at hx;simp only[Nab,VRel]at hx;have hset:=VsRel.set (d:=.own s.m.length 0) (x:=.slice none 0 0) (uy (s:=s) (b:=none) (S:=S) (N:=0) (C:=0) (w':=w) hr.inv.n) i (hr.t.mono e.2.le);have hself:a.tmps.toList.set i (.slice none 0 0)=a.tmps.toList:=by
  rw[←hx];apply List.ext_getElem?
  grind
 simp_all
mutual
def below(k:Nat):D->Bool
 |.agg l=>belows k l
 |.tup l=>belows k l
 |.sl _ l=>belows k l
 |.pt d=>below k d
 |.ref i _ _ _=>decide (i<k)
 |.own i _=>decide (i<k)
 |.view i _ _ _=>decide (i<k)
 |.fn _ a b=>belows k a&&belows k b
 |.mp i=>decide (i<k)
 |.ifc _ d=>below k d
 |_=>true
def belows(k:Nat):List D->Bool
 |[]=>true
 |d::l=>below k d&&belows k l
end
mutual
theorem cc(k:Nat):∀d:D,pa d=true->below k d=true
 |.v _,_=>by simp[below]
 |.agg l,h=>by simp only[below];exact Cb k l (by grind[pa])
 |.tup l,h=>by simp only[below];exact Cb k l (by grind[pa])
 |.sl _ l,h=>by simp only[below];exact Cb k l (by grind[pa])
 |.pt d,h=>by simp only[below];exact cc k d (by grind[pa])
 |.ifc _ d,h=>by simp only[below];exact cc k d (by grind[pa])
 |.fn _ a b,h=>by
  simp only[pa,zaa]at h;simp only[below,zaa];exact⟨Cb k a h.1,Cb k b h.2⟩
 |.dead,_=>by simp[below]
 |.ref ..,h=>by grind[pa]
 |.own ..,h=>by grind[pa]
 |.view ..,h=>by grind[pa]
 |.mp _,h=>by grind[pa]
theorem Cb(k:Nat):∀l:List D,fa l=true->belows k l=true
 |[],_=>by simp[belows]
 |d::l,h=>by
  simp only[fa,zaa]at h;simp only[belows,zaa];exact⟨cc k d h.1,Cb k l h.2⟩
end
def Ent.below(k:Nat):Ent->Bool
 |.live _ _ l=>belows k l
 |.mp es=>es.all λe=>Tm.below k e.2
 |.gone=>true
def Gh.trim(G:Gh) (k:Nat):Gh:={ G with n:=k }
mutual
theorem VRel.trim{G:Gh}{w:World}{k:Nat}:∀{d:D}{u:Value},below k d=true->VRel G w d u->VRel (G.trim k) w d u
 |.v x,u,_,h=>by simpa [VRel] using h
 |.agg l,u,hb,h=>by
  simp only[VRel,below]at h hb⊢;obtain⟨cs,rfl,h,e⟩:=h;exact⟨cs,rfl,VsRel.trim hb h,e⟩
 |.tup l,u,hb,h=>by
  simp only[VRel,below]at h hb⊢;obtain⟨cs,rfl,h⟩:=h;exact⟨cs,rfl,VsRel.trim hb h⟩
 |.sl S l,u,hb,h=>by
  simp only[VRel,below]at h hb⊢;obtain⟨a,n,cap,rfl,hn,hc,h⟩:=h;refine⟨a,n,cap,rfl,hn,hc,?_⟩;rcases h with h|⟨b,off,rfl,g,hr⟩
  .simp_all
  .exact .inr ⟨b,off,rfl,g,Na.trim hb hr⟩
 |.pt d,u,hb,h=>by
  simp only[VRel,below]at h hb⊢;obtain⟨b,off,x,rfl,g,hd,i⟩:=h;exact⟨b,off,x,rfl,g,VRel.trim hb hd,i⟩
 |.ref ..,u,hb,h=>by
  simp only[VRel,below,decide_eq_true_eq]at h hb⊢;obtain⟨a,hu,_,h⟩:=h;exact⟨a,hu,hb,h⟩
 |.own ..,u,hb,h=>by
  simp only[VRel,below,decide_eq_true_eq]at h hb⊢;obtain⟨a,n,c,hu,_,h⟩:=h;exact⟨a,n,c,hu,hb,h⟩
 |.view ..,u,hb,h=>by
  simp only[VRel,below,decide_eq_true_eq]at h hb⊢;obtain⟨a,c,hu,hn,_,h⟩:=h;exact⟨a,c,hu,hn,hb,h⟩
 |.mp _,u,hb,h=>by
  simp only[VRel,below,decide_eq_true_eq]at h hb⊢;obtain⟨b,hu,_,h⟩:=h;exact⟨b,hu,hb,h⟩
 |.ifc t d,u,hb,h=>by
  simp only[VRel,below]at h hb⊢;obtain⟨x,rfl,h⟩:=h;exact⟨x,rfl,VRel.trim hb h⟩
 |.fn f first caps,u,hb,h=>by
  simp only[VRel,below,zaa]at h hb⊢;obtain⟨fs,cs,rfl,e,h2⟩:=h;exact⟨fs,cs,rfl,VsRel.trim hb.1 e,VsRel.trim hb.2 h2⟩
 |.dead,u,_,h=>by simp[VRel]
theorem VsRel.trim{G:Gh}{w:World}{k:Nat}:∀{l:List D}{us:List Value},belows k l=true->VsRel G w l us->VsRel (G.trim k) w l us
 |[],us,_,h=>by simpa [VsRel] using h
 |d::l,us,hb,h=>by
  simp only[VsRel,belows,zaa]at h hb⊢;obtain⟨u,r,rfl,a,h2⟩:=h;exact⟨u,r,rfl,VRel.trim hb.1 a,VsRel.trim hb.2 h2⟩
theorem Na.trim{G:Gh}{w:World}{k b S:Nat}:∀{l:List D}{off:Nat},belows k l=true->Na G w b S l off->Na (G.trim k) w b S l off
 |[],off,_,h=>by simp[Na]
 |d::l,off,hb,h=>by
  simp only[Na,belows,zaa]at h hb⊢;obtain⟨⟨u,a,h2,c⟩,e⟩:=h;exact⟨⟨u,VRel.trim hb.1 a,h2,c⟩,Na.trim hb.2 e⟩
end
theorem Jd.trim{G:Gh}{w:World}{k:Nat}:∀{l:List (Value×D)}{es:List MapEntry},(l.all λe=>below k e.2)=true->Jd G w l es->Jd (G.trim k) w l es
 |[],es,_,h=>h
 |(q,d)::l,es,hb,h=>by
  simp only[List.all_cons,zaa]at hb;obtain⟨e,r,a,b,h2,c⟩:=h;exact⟨e,r,a,b,h2.trim hb.1,c.trim hb.2⟩
theorem T.trim{c:C}{K:Exit->St->Prop}{s:St}(k:Nat) (hN:N<=k) (hk:k<=s.m.length) (ht:belows k s.t=true) (hm:(s.m.take k).all (Ent.below k)=true) (h:T P N c K ⟨s.t,s.m.take k⟩):T P N c K s:=by
 refine T.ghost (λG w a hN' hr=>?_) h;have hi:=hr.inv;have d:∀(i:Nat) e,(s.m.take k)[i]?=some e->i<k/\s.m[i]?=some e:=by
  grind
 have o:Inv (G.trim k) w (s.m.take k):=by
  refine⟨by grind[Gh.trim],hi.F,λi e he=>?_,λi j e e' he q hl r b hb g=>hi.apart i j e e' (d i e he).2 (d j e' q).2 hl r b hb g,hi.gl.bare λ_ h=>h⟩;have hbe:e.below k=true:=Xaa.1 hm e (List.mem_of_getElem? he);have f:=hi.ent i e (d i e he).2
  cases e with
  |live S Ma l=>
   obtain⟨a1,a2,a3,a4,a5⟩:=f;refine⟨a1,a2,a3,a4,?_⟩;rcases a5 with a5|⟨v,cs,T,g,A,n,u,p⟩
   .exact .inl a5
   .exact .inr ⟨v,cs,T,g,A,n,u,p.trim (by grind[Ent.below])⟩
  |mp es=>
   obtain⟨a1,b,y,x,a2,a3,a4,a5⟩:=f;exact⟨a1,b,y,x,a2,a3,a4,a5.trim (by grind[Ent.below])⟩
  |gone=>trivial
 refine⟨G.trim k,⟨hr.t.trim ht,o,hr.defers⟩,⟨λ_ h=>h,λ_ _=>rfl,hN,λi hi'=>.inl ⟨rfl,rfl,rfl,rfl,rfl⟩,rfl,rfl,rfl,Haa _,λ_ _ _=>rfl,λ_ _ h=>.inl h,?_⟩⟩;rintro b hb ⟨i,e,he,hl,z⟩;exact⟨i,e,(d i e he).2,hl,z⟩
theorem T.loopS{x:C}(S:X->St) (cr:X->Prop) (μ:X->Nat) (x₀:X) (f:cr x₀) (ht:la s.t (S x₀).t) (hm:s.m=(S x₀).m)
 (hb:∀y,cr y->N<=(S y).m.length/\belows (S y).m.length (S y).t=true/\(S y).m.all (Ent.below (S y).m.length)=true)
 (round:∀y,cr y->T P N x (λe s'=>match e with|.normal=>∃z,cr z/\μ z<μ y/\la s'.t (S z).t/\∃g,s'.m=(S z).m++g|e=>K e s') (S y)):T P N (.loop x) K s:=by
 refine T.loopI (J:=λy s'=>cr y/\la s'.t (S y).t/\∃g,s'.m=(S y).m++g) μ x₀ ⟨f,ht,[],by grind⟩ ?_;rintro y s1 ⟨h,b,g,a⟩;obtain⟨c,d,b3⟩:=hb y h;refine T.sub (S y).t b ?_;refine T.trim (S y).m.length c (by simp[a]) d (by simp_all) ?_;have hst:(⟨(S y).t,s1.m.take (S y).m.length⟩:St)=S y:=by
  simp_all
 grind
end
open Go.RowKit (Below)
theorem wa(h:∀t∈tf x,s'.t.getD t .dead=s.t.getD t .dead):s'.ev x=s.ev x:=by
 cases x<;>simp[St.ev]
 simp_all[tf]
theorem BF{f:Cal}(h:∀t∈f.tmps,s'.t.getD t .dead=s.t.getD t .dead):s'.cv f=s.cv f:=by
 cases f with
 |tmp t=>exact wa (x:=.tmp t) λt' h'=>h t' (by grind[Cal.tmps,tf])
 |_=>rfl
theorem zp{d:Nat}{x:Option Operand}(h:∀t∈LD x,s'.t.getD t .dead=s.t.getD t .dead):bound s' d x=bound s d x:=by
 cases x with
 |none=>rfl
 |some y=>simp only[bound,wa (s:=s) (s':=s') (x:=y) (λt ht=>h t ht)]
theorem CA{s s':St}:∀{ps:List (Nat×Nat×Operand)}{l:List D},(∀t∈ps.flatMap (λp=>tf p.2.2),s'.t.getD t .dead=s.t.getD t .dead)->Rs s' ps l=Rs s ps l
 |[],l,h=>rfl
 |(o,n,x)::ps,l,h=>by
  simp only[Rs,wa (s:=s) (s':=s') (x:=x) (λt ht=>h t (by simp_all))];split
  .exact CA λt ht=>h t (by simp_all)
  .rfl
theorem xr{s s':St}{S:Nat}:∀{ps:List (Nat×Operand)}{l:List D},(∀t∈ps.flatMap (λp=>tf p.2),s'.t.getD t .dead=s.t.getD t .dead)->wc s' S ps l=wc s S ps l
 |[],l,h=>rfl
 |(o,x)::ps,l,h=>by
  simp only[wc,wa (s:=s) (s':=s') (x:=x) (λt ht=>h t (by simp_all))];split
  .exact xr λt ht=>h t (by simp_all)
  .rfl
theorem map_congr{s s':St}:∀{l:List Operand},(∀t∈l.flatMap tf,s'.t.getD t .dead=s.t.getD t .dead)->l.map s'.ev=l.map s.ev
 |[],h=>rfl
 |x::l,h=>by
  simp only[vaa,wa (s:=s) (s':=s') (x:=x) (λt ht=>h t (by simp_all))];rw[map_congr λt ht=>h t (by simp_all)]
theorem eG{g:Option (Tmp×Bool)}(h:∀t∈yK g,s'.t.getD t .dead=s.t.getD t .dead):gate s' g=gate s g:=by
 cases g with
 |none=>rfl
 |some p=>grind[gate,yK]
def Ud:D->Option Nat
 |.ref i _ _ _=>some i
 |.own i _=>some i
 |.view i _ _ _=>some i
 |.mp i=>some i
 |_=>none
def I.at?:I->Option Operand
 |.load _ _ x|.slice _ x _ _ _|.iaddr _ x _|.len x|.mlook _ _ _ x _|.mlen x|.Gp _ x=>some x
 |_=>none
theorem rG{m m':List Ent}(h:∀i,Ud d=some i->m'[i]?=m[i]?):Fc m' d=Fc m d:=by
 unfold Fc;split<;>first|rfl|(rename_i id Ma;rw[h id rfl])|(rename_i id _ _ _;rw[h id rfl])
theorem cQ{m m':List Ent}{lo hi:Nat}(h:∀i,Ud d=some i->m'[i]?=m[i]?):ct S m' d lo hi=ct S m d lo hi:=by
 unfold ct;split<;>first|rfl|(rename_i id Ma;rw[h id rfl])|(rename_i id Ma l0 n;rw[h id rfl])
theorem Ap{i:I}(hc:i.cls<=1) (ht:∀t∈i.reads,s'.t.getD t .dead=s.t.getD t .dead) (hm:∀x id,i.at?=some x->Ud (s.ev x)=some id->s'.m[id]?=s.m[id]?)
 {m1:List Ent} (he:da s i=some (d,m1)):m1=s.m/\da s' i=some (d,s'.m):=by
 cases i with
 |mv x=>
  grind[da,I.reads,wa]
 |pick c a b=>
  simp only[da]at he⊢;rw[wa (s:=s) (s':=s') (x:=c) (λt h=>ht t (by grind[I.reads])),wa (s:=s) (s':=s') (x:=a) (λt h=>ht t (by grind[I.reads])),wa (s:=s) (s':=s') (x:=b) (λt h=>ht t (by grind[I.reads]))];split at he
  all_goals simp_all
 |bin op x y=>
  simp only[da]at he⊢;rw[wa (s:=s) (s':=s') (x:=x) (λt h=>ht t (by grind[I.reads])),wa (s:=s) (s':=s') (x:=y) (λt h=>ht t (by grind[I.reads]))];split at he
  all_goals first|(simp_all;done)|(simp only[paa,Naa]at he⊢;grind)|(simp_all;obtain⟨_,g,h2,j⟩:=he;exact⟨j.symm,_,g,h2⟩)
 |beq n x y=>
  simp only[da]at he⊢;rw[wa (s:=s) (s':=s') (x:=x) (λt h=>ht t (by grind[I.reads])),wa (s:=s) (s':=s') (x:=y) (λt h=>ht t (by grind[I.reads]))];split at he
  all_goals simp_all
 |un op x=>
  simp only[da]at he⊢;rw[wa (s:=s) (s':=s') (x:=x) (λt h=>ht t (by grind[I.reads]))];split at he
  all_goals first|(simp_all;done)|(simp only[paa,Naa]at he⊢;grind)|(simp_all;obtain⟨_,g,h2,j⟩:=he;exact⟨j.symm,_,g,h2⟩)
 |conv k x=>
  simp only[da]at he⊢;rw[wa (s:=s) (s':=s') (x:=x) (λt h=>ht t (by grind[I.reads]))];split at he
  all_goals simp_all
 |build z ps=>
  simp only[da]at he⊢;rw[CA (s:=s) (s':=s') (λt h=>ht t (by grind[I.reads]))]
  cases hb:Rs s ps z with
  |none=>simp_all
  |some l=>grind
 |mkifc t x=>
  grind[da,I.reads,wa]
 |tassert ok t z x=>
  simp only[da]at he⊢;rw[wa (s:=s) (s':=s') (x:=x) (λt h=>ht t (by grind[I.reads]))]
  repeat' split at he
  all_goals simp_all
 |capn x=>
  simp only[da]at he⊢;rw[wa (s:=s) (s':=s') (x:=x) (λt h=>ht t (by grind[I.reads]))]
  grind
 |Gp neg x=>
  simp only[da]at he⊢;rw[wa (s:=s) (s':=s') (x:=x) (λt h=>ht t (by grind[I.reads]))];split at he
  .simp_all
  .simp_all
  .rename_i id Ma hx;rw[hm x id rfl (by rw[hx];rfl)];split at he
   all_goals simp_all
  simp_all
 |clr S z x=>grind[I.cls]
 |mkapp S b z x n=>grind[I.cls]
 |nilc x=>
  simp only[da]at he⊢;rw[wa (s:=s) (s':=s') (x:=x) (λt h=>ht t (by grind[I.reads]))]
  grind
 |faddr A n o x=>
  simp only[da]at he⊢;rw[wa (s:=s) (s':=s') (x:=x) (λt h=>ht t (by grind[I.reads]))];split at he
  all_goals first|(simp_all;done)|(simp only[paa,Naa]at he⊢;grind)|(simp_all;obtain⟨_,g,h2,j⟩:=he;exact⟨j.symm,_,g,h2⟩)
 |field A n o x=>
  simp only[da]at he⊢;rw[wa (s:=s) (s':=s') (x:=x) (λt h=>ht t (by grind[I.reads]))];split at he
  all_goals first|(simp_all;done)|(simp only[paa,Naa]at he⊢;grind)|(simp_all;obtain⟨_,g,h2,j⟩:=he;exact⟨j.symm,_,g,h2⟩)
 |extract x k=>
  simp only[da]at he⊢;rw[wa (s:=s) (s':=s') (x:=x) (λt h=>ht t (by grind[I.reads]))];split at he
  all_goals first|(simp_all;done)|(simp only[paa,Naa]at he⊢;grind)|(simp_all;obtain⟨_,g,h2,j⟩:=he;exact⟨j.symm,_,g,h2⟩)
 |mkfunc f a b=>
  grind[da,I.reads,map_congr]
 |aaddr A S n x y=>
  simp only[da]at he⊢;rw[wa (s:=s) (s':=s') (x:=x) (λt h=>ht t (by grind[I.reads])),wa (s:=s) (s':=s') (x:=y) (λt h=>ht t (by grind[I.reads]))]
  repeat' split at he
  all_goals first|(simp_all;done)|(simp only[paa,Naa]at he⊢;obtain⟨_,g,rfl,rfl⟩:=he;exact⟨rfl,_,g,by simp⟩)|(simp_all;grind)
 |index A S n x y=>
  simp only[da]at he⊢;rw[wa (s:=s) (s':=s') (x:=x) (λt h=>ht t (by grind[I.reads])),wa (s:=s) (s':=s') (x:=y) (λt h=>ht t (by grind[I.reads]))];split at he
  .split at he
   .rename_i hk;rw[if_pos hk];split at he
    .simp only[paa,Naa]at he⊢
     grind
    simp_all
   simp_all
  simp_all
 |slen x=>
  simp only[da]at he⊢;rw[wa (s:=s) (s':=s') (x:=x) (λt h=>ht t (by grind[I.reads]))];split at he
  all_goals simp_all
 |len x=>
  simp only[da]at he⊢;rw[wa (s:=s) (s':=s') (x:=x) (λt h=>ht t (by grind[I.reads])),rG (λid h=>hm x id rfl h)]
  cases hb:Fc s.m (s.ev x)with
  |none=>simp_all
  |some l=>grind
 |slice S x lo hi mx=>
  simp only[da]at he⊢;rw[wa (s:=s) (s':=s') (x:=x) (λt h=>ht t (by grind[I.reads])),rG (λid h=>hm x id rfl h)]
  cases hb:Fc s.m (s.ev x)with
  |none=>simp_all
  |some n=>
   simp only[hb]at he⊢;rw[zp (s:=s) (s':=s') (x:=lo) (λt h=>ht t (by grind[I.reads])),zp (s:=s) (s':=s') (x:=hi) (λt h=>ht t (by grind[I.reads])),zp (s:=s) (s':=s') (x:=mx) (λt h=>ht t (by grind[I.reads]))];split at he
   .rename_i l h k g h2 j;(try simp only);rw[cQ (λid h=>hm x id rfl h)];split at he
    .rename_i hc;rw[if_pos hc]
     cases hs:ct S s.m (s.ev x) l h with
     |none=>simp_all
     |some r=>grind
    simp_all
   simp_all
 |iaddr S x y=>
  simp only[da]at he⊢;rw[wa (s:=s) (s':=s') (x:=x) (λt h=>ht t (by grind[I.reads])),wa (s:=s) (s':=s') (x:=y) (λt h=>ht t (by grind[I.reads]))];split at he
  .split at he
   .rename_i k hk;rw[if_pos hk];split at he
    .repeat' split at he
     all_goals first|(simp_all;done)|(simp only[paa,Naa]at he⊢;obtain⟨_,g,rfl,rfl⟩:=he;exact⟨rfl,_,g,by simp⟩)|(simp_all;grind)
    .rename_i id Ma hx;(try simp only);rw[hm x id rfl (by rw[hx];rfl)]
     repeat' split at he
     all_goals simp_all
    .rename_i id Ma lo n hx;(try simp only);rw[hm x id rfl (by rw[hx];rfl)]
     repeat' split at he
     all_goals simp_all
    simp_all
   simp_all
  simp_all
 |load A n x=>
  simp only[da]at he⊢;rw[wa (s:=s) (s':=s') (x:=x) (λt h=>ht t (by grind[I.reads]))];split at he
  .repeat' split at he
   all_goals grind
  .rename_i id Ma idx sub hx;(try simp only);rw[hm x id rfl (by rw[hx];rfl)];split at he
   .rename_i S ver' l hml;(try simp only);split at he
    .rename_i hv;rw[if_pos hv];simp only[jac]at he⊢;obtain⟨e,hl,he⟩:=he;split at he
     .rename_i hok;simp only[paa,Naa]at he
      grind
     simp_all
    simp_all
   simp_all
  simp_all
 |alloc S z=>grind[I.cls]
 |box S x=>grind[I.cls]
 |bslice S n z ps=>grind[I.cls]
 |mkslice S b z l c=>grind[I.cls]
 |store n x y=>grind[I.cls]
 |append S b x y=>grind[I.cls]
 |fail=>grind[da]
 |mm b xs=>
  simp only[da]at he⊢;rw[map_congr (s:=s) (s':=s') (l:=xs) (λt h=>ht t (by grind[I.reads]))];split at he
  all_goals first|(simp_all;done)|(simp only[paa,Naa]at he⊢;grind)|(simp_all;obtain⟨_,g,h2,j⟩:=he;exact⟨j.symm,_,g,h2⟩)
 |ceq n ks x y=>
  simp only[da]at he⊢;rw[wa (s:=s) (s':=s') (x:=x) (λt h=>ht t (by grind[I.reads])),wa (s:=s) (s':=s') (x:=y) (λt h=>ht t (by grind[I.reads]))];split at he
  all_goals first|(simp_all;done)|(simp only[paa,Naa]at he⊢;grind)|(simp_all;obtain⟨_,g,h2,j⟩:=he;exact⟨j.symm,_,g,h2⟩)
 |strb S x=>grind[I.cls]
 |trunc S x lo hi=>grind[I.cls]
 |Nw x y=>
  simp only[da]at he⊢;rw[wa (s:=s) (s':=s') (x:=x) (λt h=>ht t (by grind[I.reads])),wa (s:=s) (s':=s') (x:=y) (λt h=>ht t (by grind[I.reads]))];split at he
  all_goals simp_all
 |sslice x lo hi=>
  simp only[da]at he⊢;rw[wa (s:=s) (s':=s') (x:=x) (λt h=>ht t (by grind[I.reads]))];split at he
  all_goals grind[I.reads,zp]
 |mkmap=>grind[I.cls]
 |mput K m k x=>grind[I.cls]
 |mlook K ok z x k=>
  simp only[da]at he⊢;rw[wa (s:=s) (s':=s') (x:=x) (λt h=>ht t (by grind[I.reads])),wa (s:=s) (s':=s') (x:=k) (λt h=>ht t (by grind[I.reads]))];split at he
  .split at he
   .rename_i hk;rw[if_pos hk];split at he
    .grind
    .rename_i id hx;(try simp only);rw[hm x id rfl (by rw[hx];rfl)];split at he
     all_goals grind
    simp_all
   simp_all
  simp_all
 |mlen x=>
  simp only[da]at he⊢;rw[wa (s:=s) (s':=s') (x:=x) (λt h=>ht t (by grind[I.reads]))];split at he
  .grind
  .rename_i id hx;(try simp only);rw[hm x id rfl (by rw[hx];rfl)];split at he
   all_goals simp_all
  simp_all
theorem VF{i:I}(hc:i.cls=2) (ht:∀t∈i.reads,s'.t.getD t .dead=s.t.getD t .dead) (hm:s'.m=s.m) {m1:List Ent}(he:da s i=some (d,m1)):da s' i=some (d,m1)/\∃e,m1=s.m++[e]:=by
 cases i with
 |alloc S z=>grind[da]
 |box S x=>
  simp only[da]at he⊢;rw[wa (s:=s) (s':=s') (x:=x) (λt h=>ht t (by grind[I.reads])),hm]
  grind
 |bslice S n z ps=>
  grind[da,I.reads,xr,paa]
 |mkslice S b z l c=>
  grind[da,I.reads,wa]
 |mkmap=>
  grind[da]
 |_=>simp[I.cls]at hc
def Closed(bs:List (List Nat)) (L:Nat->Bool):Prop:=∀i b,bs[i]?=some b->L i=true->∀e∈b,L e=true
theorem vG(acc:List Nat) {L:Nat->Bool}(a:∀e,L e=true->∀j,(acc.getD e 0).testBit j=true->L j=true) :
 ∀(b:List Nat) (s:Nat),(∀e∈b,L e=true)->(∀j,s.testBit j=true->L j=true)->∀j,(b.foldl (λs e=>s ||| 2 ^ e ||| acc.getD e 0) s).testBit j=true->L j=true
 |[],s,_,c,j,h=>c j h
 |e::b,s,hb,c,j,h=>by
  simp only[List.foldl_cons]at h;refine vG acc a b _ (λx hx=>hb x (by grind)) (λk hk=>?_) j h
  grind
theorem fI{bs:List (List Nat)}(f:Closed bs L):∀(k:Nat) (acc:List Nat),acc.length=k->(∀e,L e=true->∀j,(acc.getD e 0).testBit j=true->L j=true)->
 ∀e,L e=true->∀j,((Zv acc (bs.drop k)).getD e 0).testBit j=true->L j=true:=by
 intro k;have main:∀(n k:Nat) (acc:List Nat),bs.length-k=n->acc.length=k->(∀e,L e=true->∀j,(acc.getD e 0).testBit j=true->L j=true)->
  ∀e,L e=true->∀j,((Zv acc (bs.drop k)).getD e 0).testBit j=true->L j=true:=by
  intro n
  induction n with
  |zero=>
   intro k acc hn hl a e he j hj;rw[Aac (by omega)]at hj;exact a e he j hj
  |succ n g=>
   intro k acc hn hl a e he j hj;have hk:k<bs.length:=by omega
   rw[mab hk]at hj;simp only[Zv]at hj;refine g (k+1) (acc++[M0 acc bs[k]]) (by omega) (by grind) ?_ e he j hj;intro x hx y b;rw[iad,List.getElem?_append]at b;split at b
   .exact a x hx y (by simp_all)
   .rename_i hlt;by_cases d:x=k
    .subst d;rw[hl,Nat.sub_self]at b;simp only[List.getElem?_cons_zero,Nab]at b;exact vG acc a _ 0 (λe' c=>f x _ (naa hk) hx e' c) (λj h=>by grind) y b
    grind
 grind
theorem Ut{bs:List (List Nat)}(a:Closed bs L) {e:Nat}(he:L e=true) (hj:((Zw bs).getD e 0).testBit j=true):L j=true:=by
 have:=fI a 0 [] rfl (λe _ j h=>by grind) e he j;simp only[List.drop_zero]at this;exact this hj
open Go.RowKit (Below)
theorem JV{m:List Ent}(h:Fc m d=some n) (ht:Ud d=some id):∃e,m[id]?=some e:=by
 unfold Fc at h
 grind[Ud]
theorem wD{i:I}{m1:List Ent}(he:da s i=some (d,m1)) (hx:i.at?=some x) (ht:Ud (s.ev x)=some id):∃e,s.m[id]?=some e:=by
 cases i<;>simp only[I.at?,reduceCtorEq,Vaa]at hx<;>subst hx
 .grind[da,Ud]
 all_goals grind[da,Ud,JV,paa]
section
variable (dst:Nat->Option Tmp) (dd:Nat->D) (xx:Nat->List Ent) (L:Nat->Bool)
def tS(t0:List D):Nat->List D
 |0=>t0
 |n+1=>if L n then(match dst n with|some y=>(tS t0 n).set y (dd n)|none=>tS t0 n)else tS t0 n
def mS(m0:List Ent):Nat->List Ent
 |0=>m0
 |n+1=>if L n then mS m0 n++xx n else mS m0 n
end
section
variable {dst:Nat->Option Tmp} {dd:Nat->D} {xx:Nat->List Ent} {L:Nat->Bool}
theorem iw(t0:List D):∀n,(tS dst dd L t0 n).length=t0.length
 |0=>rfl
 |n+1=>by
  simp only[tS];split
  .split
   .simp[iw t0 n]
   .exact iw t0 n
  .exact iw t0 n
theorem w5(t0:List D) (n y:Nat):(tS dst dd L t0 (n+1)).getD y .dead=if L n=true/\dst n=some y/\y<t0.length then dd n else(tS dst dd L t0 n).getD y .dead:=by
 simp only[tS];by_cases a:L n=true
 .rw[if_pos a]
  cases hd:dst n with
  |none=>simp
  |some z=>
   simp only;rw[iad,Wad];by_cases b:z=y
   .subst b;rw[if_pos rfl,iw]
    grind[iw]
   simp_all
 simp_all
theorem VN(t0:List D) {y:Nat}:∀{q:Nat},i<=q->(∀j,j<q->dst j=some y->(L j=true↔j<i))->(tS dst dd L t0 q).getD y .dead=(tS dst dd (λ_=>true) t0 i).getD y .dead:=by
 have h1:∀n,n<=i->(∀j,j<n->dst j=some y->L j=true)->(tS dst dd L t0 n).getD y .dead=(tS dst dd (λ_=>true) t0 n).getD y .dead:=by
  intro n
  induction n with
  |zero=>intro _ _;rfl
  |succ n a=>
   grind[w5]
 intro q
 induction q with
 |zero=>simp_all
 |succ q a=>
  intro hi h;by_cases hq:i=q+1
  .simp_all
  .rw[w5,if_neg ?_]
   all_goals grind
theorem JC(m0:List Ent):∀(q:Nat),(∀i j,i<j->j<q->xx i≠[]->xx j≠[]->L j=true->L i=true)->∃k,k<=q/\mS xx L m0 q=mS xx (λ_=>true) m0 k
 |0,_=>⟨0,Haa _,rfl⟩
 |q+1,h=>by
  obtain⟨k,hk,he⟩:=JC m0 q λi j a hj=>h i j a (by omega);by_cases hx:xx q=[]
  .grind[mS]
  .by_cases hL:L q=true
   .refine⟨q+1,Haa _,?_⟩;have hall:∀n,n<=q->mS xx L m0 n=mS xx (λ_=>true) m0 n:=by
     intro n
     induction n with
     |zero=>intro _;rfl
     |succ n ih=>
      grind[mS]
    simp_all[mS]
   grind[mS]
theorem HE(m0:List Ent) (h:k<=i):∃r,mS xx (λ_=>true) m0 i=mS xx (λ_=>true) m0 k++r:=by
 induction i with
 |zero=>simp_all
 |succ i ih=>
  by_cases hk:k=i+1
  .simp_all
  grind[mS]
theorem YM(m0:List Ent) :∀{q:Nat},i<=q->(∀j,j<q->xx j≠[]->(L j=true↔j<i))->mS xx L m0 q=mS xx (λ_=>true) m0 i:=by
 have h1:∀n,n<=i->(∀j,j<n->xx j≠[]->L j=true)->mS xx L m0 n=mS xx (λ_=>true) m0 n:=by
  intro n
  induction n with
  |zero=>intro _ _;rfl
  |succ n a=>
   grind[mS]
 intro q
 induction q with
 |zero=>simp_all
 |succ q a=>
  grind[mS]
theorem rT(t0:List D) {a:Nat->Bool}(hi:L i=false) (hL':∀j,a j=(L j || j==i)):∀{q:Nat},i<q->(∀j,i<j->j<q->∀y,dst i=some y->dst j=some y->L j=false)->
 tS dst dd a t0 q=(match dst i with|some y=>(tS dst dd L t0 q).set y (dd i)|none=>tS dst dd L t0 q):=by
 have hlow:∀n,n<=i->tS dst dd a t0 n=tS dst dd L t0 n:=by
  intro n
  induction n with
  |zero=>intro _;rfl
  |succ n c=>
   grind[tS]
 intro q
 induction q with
 |zero=>omega
 |succ q c=>
  intro hq hw;by_cases hqi:q=i
  .simp_all[tS]
  .have d:a q=L q:=by simp_all
   have b:=c (by omega) λj hj hjq=>hw j hj (by omega);simp only[tS,d,b]
   cases hdi:dst i with
   |none=>simp
   |some y=>
    simp only;split
    .rename_i hLq;split
     .rename_i z hz;have hne:y≠z:=by
       grind
      grind[aaf]
     .rfl
    .rfl
theorem DS(m0:List Ent) {a:Nat->Bool}(hi:L i=false) (hL':∀j,a j=(L j || j==i)):∀{q:Nat},i<q->(∀j,i<j->j<q->xx i≠[]->xx j≠[]->L j=false)->
 mS xx a m0 q=mS xx L m0 q++xx i:=by
 have hlow:∀n,n<=i->mS xx a m0 n=mS xx L m0 n:=by
  intro n
  induction n with
  |zero=>intro _;rfl
  |succ n c=>
   grind[mS]
 intro q
 induction q with
 |zero=>omega
 |succ q c=>
  intro hq hw;by_cases hqi:q=i
  .simp_all[mS]
  .have d:a q=L q:=by simp_all
   have b:=c (by omega) λj hj hjq=>hw j hj (by omega);simp only[mS,d,b];split
   .rename_i hLq;by_cases hxi:xx i=[]
    all_goals grind
   .rfl
end
def xA(P:Program) (r:RI) (s:St) (d:D) (x:List Ent):Prop:=
 match r with
 |.op _ g i=>((gate s g=some none\/∃c,gate s g=some (some (c,c)))/\da s i=some (d,s.m++x))\/((∃c b,gate s g=some (some (c,b))/\c≠b)/\d=.v undef/\x=[])
 |.call _ g f args=>∃k first caps,s.cv f=.fn k first caps/\x=[]/\
  (((gate s g=some none\/∃c,gate s g=some (some (c,c)))/\∀m,CallT P k (first++args.map s.ev++caps) m λd' m'=>d'=d/\m'=m)\/((∃c b,gate s g=some (some (c,b))/\c≠b)/\d=.v undef))
def after(s:St) (r:RI) (d:D) (x:List Ent):St:=({ s with m:=s.m++x }:St).put r.dst d
def CL(P:Program):List RI->St->List (D×List Ent)->St->Prop
 |[],s,os,s'=>os=[]/\s'=s
 |r::l,s,os,s'=>∃d x os',os=(d,x)::os'/\xA P r s d x/\CL P l (after s r d x) os' s'
section
variable {P:Program}
theorem CL.length:∀{l:List RI}{s s':St}{os:List (D×List Ent)},CL P l s os s'->os.length=l.length
 |[],s,s',os,h=>by simp[h.1]
 |r::l,s,s',os,h=>by
  obtain⟨d,x,os',rfl,_,h⟩:=h;simp[CL.length h]
def wA(rl:List RI) (os:List (D×List Ent)) (s:St) (L:Nat->Bool) (n:Nat):St:=
 ⟨tS (λi=>(rl.getD i (.op none none (.mv (.const undef)))).dst) (λi=>(os.getD i (.dead,[])).1) L s.t n,mS (λi=>(os.getD i (.dead,[])).2) L s.m n⟩
theorem JJ(s:St) (r:RI) (d:D) (x:List Ent):(after s r d x).t=(match r.dst with|some y=>s.t.set y d|none=>s.t)/\(after s r d x).m=s.m++x:=by
 unfold after St.put
 grind
theorem CL.get{rl:List RI}{os:List (D×List Ent)}{s0:St}:∀{l:List RI}{k:Nat}{s':St}{os':List (D×List Ent)},l=(rl.drop k).take l.length->os'=(os.drop k).take os'.length->CL P l (wA rl os s0 (λ_=>true) k) os' s'->
 (∀i,i<l.length->xA P (rl.getD (k+i) (.op none none (.mv (.const undef)))) (wA rl os s0 (λ_=>true) (k+i)) (os.getD (k+i) (.dead,[])).1 (os.getD (k+i) (.dead,[])).2)/\s'=wA rl os s0 (λ_=>true) (k+l.length)
 |[],k,s',os',_,_,h=>⟨λi hi=>by grind,by simpa using h.2⟩
 |r::l,k,s',os',c,h2,h=>by
  obtain⟨d,x,a,rfl,hs,h⟩:=h;have hr:rl[k]?=some r:=by
   have:=congrArg (λl=>l[0]?) c
   grind
  have ho:os[k]?=some (d,x):=by
   have:=congrArg (λl=>l[0]?) h2
   grind
  have hr':rl.getD k (.op none none (.mv (.const undef)))=r:=by simp_all
  have ho':os.getD k (.dead,[])=(d,x):=by simp_all
  have b:after (wA rl os s0 (λ_=>true) k) r d x=wA rl os s0 (λ_=>true) (k+1):=by
   have ha:=JJ (wA rl os s0 (λ_=>true) k) r d x;have:after (wA rl os s0 (λ_=>true) k) r d x=⟨(after (wA rl os s0 (λ_=>true) k) r d x).t,(after (wA rl os s0 (λ_=>true) k) r d x).m⟩:=rfl
   simp_all[wA,tS,mS]
  rw[b]at h;have t1:l=(rl.drop (k+1)).take l.length:=by
   grind[mab]
  have t2:a=(os.drop (k+1)).take a.length:=by
   grind[mab]
  obtain⟨g1,g2⟩:=CL.get t1 t2 h;refine⟨λi hi=>?_,by grind⟩
  cases i with
  |zero=>grind
  |succ i=>
   have:=g1 i (by grind)
   grind
theorem filter_lt{L c:Nat->Bool}{i:Nat}(hi:L i=false) (d:∀j,c j=(L j || j==i)):∀{l:List Nat},i∈l->(l.filter λj=>!c j).length<(l.filter λj=>!L j).length
 |[],h=>by cases h
 |a::l,h=>by
  have mono:∀l:List Nat,(l.filter λj=>!c j).length<=(l.filter λj=>!L j).length:=by
   intro l
   induction l with
   |nil=>simp
   |cons b l f=>
    grind
  by_cases ha:a=i
  .grind
  .have e:i∈l:=by
    grind
   have f:=filter_lt hi d e
   grind
theorem Ku{ops:Array Oper}:∀{l:List Oper}{rl:List RI},Hg P ops l=some rl->rl.length=l.length/\∀(i:Nat) o,l[i]?=some o->∃r,rl[i]?=some r/\wo P ops o=some r
 |[],rl,h=>by grind[Hg]
 |o::l,rl,h=>by
  simp only[Hg]at h;split at h
  .rename_i r rs h1 h2;injection h with h;subst h;obtain⟨g1,g2⟩:=Ku h2
   grind
  .cases h
theorem qw(h:wo P ops o=some r):r.dst=o.dst:=by
 unfold wo at h;split at h
 .cases h
 .split at h
  .injection h with h;subst h;rfl
  .simp only[paa]at h;obtain⟨i,-,rfl⟩:=h;rfl
theorem flo_op(hc:wo P ops o=some r) {x:List Ent}(hf:xA P r sc d x) (ht:∀t∈r.reads,s.t.getD t .dead=sc.t.getD t .dead)
 (hm:r.cls=2->s.m=sc.m) (V:∀(id:Nat),(∃e,sc.m[id]?=some e)->id<s.m.length->s.m[id]?=sc.m[id]?) (F:r.cls<=2)
 {G:Gh} {w:World} (hr:Rel G w a s) (hi:ops[i]?=some o) {Q:Exit->Act->World->Prop} {K:Act->World->Prop}
 (T:∀G' w' a',Rel G' w' a' (after s r d x)->Step G w s.m G' w' (s.m++x)->K a' w'):wpOp P ops Q i K a w:=by
 have hdst:=qw hc;unfold wpOp;simp only[hi];unfold wo at hc;split at hc
 .grind
 .rename_i g hg;obtain⟨hgate1,hgate2⟩:=cn hr hg;have hgt:gate s g=gate sc g:=eG (λt h=>ht t (by
   split at hc
   .grind[RI.reads]
   .simp only[paa]at hc;obtain⟨i,-,rfl⟩:=hc
    grind[RI.reads]))
  have S:(gate sc g=some none\/∃c,gate sc g=some (some (c,c)))->Region.wanted o (yielded ops a.tmps)=true:=by
   grind
  have woff:(∃c b,gate sc g=some (some (c,b))/\c≠b)->Region.wanted o (yielded ops a.tmps)=false:=by
   grind
  have skip:d=.v undef->x=[]->K (a.put o.dst undef) w:=by
   rintro rfl rfl;refine T G w _ ?_ (by grind[Step.refl])
   simp_all[after,yB]
  split at hc
  .rename_i f args ho;injection hc with hc;subst hc;obtain⟨k,first,caps,hfe,rfl,hf⟩:=hf;have M:s.cv f=.fn k first caps:=by grind[RI.reads,BF]
   have z:args.map s.ev=args.map sc.ev:=map_congr (λt h=>ht t (by grind[RI.reads]));rcases hf with⟨B,A⟩|⟨N,hd⟩
   .rw[if_pos (S B)];refine .inl ?_;obtain⟨⟨fn,e1,e2,e3⟩,E⟩:=A s.m;obtain⟨fs,cs,O,X,Y⟩:=By hr ho (KY M) e1 e2 e3;rw[←z]at E;have q:=E G w (fs++args.map a.eval++cs) ((X.append (Hy hr _)).append Y) hr.inv;unfold Oper.wp;rw[O,Oper.upon_enter];refine q.mono ?_;rintro e w' ⟨v,d',m',G',rfl,⟨rfl,rfl⟩,Z,U,C⟩;refine T G' w' _ ?_ (by simp_all);unfold after;rw[Taa];exact(hr.step C.le U).put o.dst Z
   simp_all
  .rename_i hno;simp only[paa]at hc;obtain⟨j,hj,rfl⟩:=hc;rcases hf with⟨B,H⟩|⟨N,hd,hx⟩
   .rw[if_pos (S B)];refine .inl ?_;have J:da s j=some (d,s.m++x):=by
     simp only[RI.cls]at F hm;have R:∀t∈j.reads,s.t.getD t .dead=sc.t.getD t .dead:=λt h=>ht t (by grind[RI.reads]);by_cases h2:j.cls=2
     .grind[VF]
     .have h1:j.cls<=1:=by omega
      obtain⟨hxm,hres⟩:=Ap (s:=sc) (s':=s) h1 R (λy id hy l=>by
       refine V id (wD H hy l) ?_;have p:=hr.ev y;have L:s.ev y=sc.ev y:=wa (λt h=>R t (by
        cases j<;>simp only[I.at?,reduceCtorEq,Vaa]at hy<;>subst hy<;>simp[I.reads,h]))
       rw[L]at p;have hn:=hr.inv.n;generalize sc.ev y=dy at *;cases dy<;>simp only[Ud,reduceCtorEq,Vaa]at l
       .subst l;simp only[VRel]at p;omega
       .subst l;simp only[VRel]at p;omega
       .subst l;simp only[VRel]at p;omega
       .subst l;simp only[VRel]at p;omega) H
      simp_all
    exact hr.cr (Dy hj hr J) λG' w' u W C=>T G' w' _ W C
   simp_all
end
open Go.RowKit (Below)
section
variable {P:Program}
theorem regT_op{Q:Exit->Act->World->Prop}{K:St->Prop}{rs:List RI}{G:Gh}{w:World}(h:wo P ops o=some r) (p:wj P (r::rs) K s) (hr:Rel G w a s)
 (hi:ops[i]?=some o) {Kx:Act->World->Prop} (rest:∀{G':Gh} {w':World} {a':Act} {s':St},wj P rs K s'->Rel G' w' a' s'->Step G w s.m G' w' s'.m->Kx a' w'):wpOp P ops Q i Kx a w:=by
 unfold wpOp;simp only[hi];unfold wo at h;split at h
 .grind
 .rename_i g B;obtain⟨hgate1,hgate2⟩:=cn hr B;have doI:∀{i:I} {d:D} {m':List Ent},Oq P ops o o.op=some i->da s i=some (d,m')->wj P rs K ({ s with m:=m' }.put o.dst d)->o.wp P a w Kx Q:=by
   intro i d m' hi he b;exact hr.cr (Dy hi hr he) λG' w' u x n=>rest b x (by grind[ND])
  have skip:wj P rs K (s.put o.dst (.v undef))->Kx (a.put o.dst undef) w:=λb=>rest b (yB hr o.dst) (by grind[ND,Step.refl]);split at h
  .rename_i f args ho;injection h with h;subst h;simp only[wj]at p;split at p
   .rename_i k first caps q
    have doC:CallT P k (first++args.map s.ev++caps) s.m (λd m'=>wj P rs K ({ s with m:=m' }.put o.dst d))->o.wp P a w Kx Q:=by
     rintro⟨⟨fn,e1,e2,e3⟩,j⟩;obtain⟨fs,cs,l,y,z⟩:=By hr ho q e1 e2 e3;have c:=j G w (fs++args.map a.eval++cs) ((y.append (Hy hr _)).append z) hr.inv;unfold Oper.wp;rw[l,Oper.upon_enter];refine c.mono ?_;rintro e w' ⟨v,d,m',G',rfl,b,A,t,n⟩;exact rest b ((hr.step n.le t).put o.dst A) (by grind[ND])
    grind
   grind
  .rename_i hno;simp only[paa]at h;obtain⟨i,hi,rfl⟩:=h;simp only[wj]at p
   grind
theorem GZ(hi:i<listed.size) (d:Bool):(listed.setIfInBounds i true).getD j d=if j=i then true else listed.getD j d:=by
 simp only[Xac,Array.getElem?_setIfInBounds]
 grind
theorem kD(h:ops[i]?=some o):(ub ops)[i]?=some ((o.after.toList.filter λe=>Region.binds .any e).map (·.on)):=by
 grind[ub]
structure TailFacts (bs:List (List Nat)) (rl:List RI) (q:Nat):Prop where
 len:bs.length=rl.length
 hq:q<=rl.length
 back:∀(i:Nat) b,bs[i]?=some b->∀e∈b,e<i
 tail:∀(i j:Nat),i<j->q<=j->j<rl.length->((Zw bs).getD j 0).testBit i=true
theorem eL{bs:List (List Nat)}{rl:List RI}{q:Nat}(h:dL bs rl cuts q=true) :
 TailFacts bs rl q/\∀p∈cuts,∀(i j:Nat),i<p->p<=j->j<rl.length->((Zw bs).getD j 0).testBit i=true:=by
 unfold dL at h;simp only[zaa,beq_iff_eq,decide_eq_true_eq,Xaa,Eac,Had]at h;obtain⟨⟨⟨⟨h0,a⟩,h2⟩,h3⟩,h4⟩:=h;refine⟨⟨a,h2,?_,?_⟩,?_⟩
 .simp_all[fab]
 all_goals grind
structure DrawFacts (bs:List (List Nat)) (rl:List RI) (q:Nat):Prop extends TailFacts bs rl q where
 cls:∀(j:Nat) y,j<q->rl[j]?=some y->y.cls<=2
 apart:∀(i j:Nat) x y,i<j->j<q->rl[i]?=some x->rl[j]?=some y->Dz x y=true->((Zw bs).getD j 0).testBit i=true
theorem Ht{bs:List (List Nat)}{rl:List RI}{q:Nat}(h:uC bs rl q=true):DrawFacts bs rl q:=by
 unfold uC at h;simp only[zaa,beq_iff_eq,decide_eq_true_eq,Xaa,Eac]at h;obtain⟨⟨⟨a,h2⟩,h3⟩,h4⟩:=h;have hy:∀(j:Nat) y,rl[j]?=some y->j<rl.length:=λj y hj=>(fab.1 hj).1;refine⟨⟨a,h2,?_,?_⟩,?_,?_⟩
 rotate_left
 .grind
 rotate_right
 .simp_all[fab]
 all_goals grind
section
variable {ops:Array Oper} {Q:Exit->Act->World->Prop} {K:St->Prop} {rl:List RI} {q:Nat}
def Hd(listed:Array Bool):Nat->Bool:=λi=>listed.getD i false
theorem Vu(hf:TailFacts (ub ops) rl q) (hsz:listed.size=ops.size) (h:Closed (ub ops) (Hd listed)) (hi:i∈Region.ready .any ops listed) :
 i<ops.size/\Hd listed i=false/\(∀j,j≠i->((Zw (ub ops)).getD i 0).testBit j=true->Hd listed j=true)/\Closed (ub ops) (Hd (listed.setIfInBounds i true))/\
 (∀j,Hd (listed.setIfInBounds i true) j=(Hd listed j || j==i)):=by
 obtain⟨h0,o,ho,f⟩:=mem_ready.1 hi;have k:i<ops.size:=(Array.getElem?_eq_some_iff.1 ho).1;have g:Hd listed i=false:=by
  grind[Hd]
 have d:∀j,Hd (listed.setIfInBounds i true) j=(Hd listed j || j==i):=by
  intro j;unfold Hd;rw[GZ (by omega)]
  grind
 have c:Closed (ub ops) (Hd (listed.setIfInBounds i true)):=by
  intro j b hb hj e he;rw[d]at hj⊢;simp only[Had,beq_iff_eq]at hj⊢;rcases hj with hj|hj
  .exact .inl (h j b hb hj e he)
  .subst hj;have a:=kD ho;rw[hb]at a;injection a with a;subst a;simp only[List.mem_map,List.mem_filter,Array.mem_toList_iff]at he;obtain⟨ed,⟨l,h2⟩,rfl⟩:=he;exact .inl (f ed l h2)
 refine⟨k,g,λj hne hj=>?_,c,d⟩;have:=Ut c (e:=i) (by simp_all) hj
 simp_all
theorem ky(hf:TailFacts (ub ops) rl q) (hsz:listed.size=ops.size) (hno:Region.ready .any ops listed=[]):∀i,i<ops.size->Hd listed i=true:=by
 intro i
 induction i using Jad with
 |_ i c=>
  intro hi;rcases hb:Hd listed i with _|_
  .exfalso;have:i∈Region.ready .any ops listed:=by
    refine mem_ready.2 ⟨?_,ops[i],Tab hi,λe he hbi=>?_⟩
    .grind[Hd]
    .have a:=kD (Tab hi);have b:=hf.back i _ a e.on (by
      grind)
     exact c e.on b (by omega)
   simp_all
  .rfl
theorem My(hc:Hg P ops ops.toList=some rl) (hf:TailFacts (ub ops) rl q) :
 ∀(n r:Nat) (fuel:Nat) (listed:Array Bool) (s:St) (G:Gh) (w:World) (a:Act),ops.size-r=n->n<=fuel->q<=r->r<=ops.size->listed.size=ops.size->(∀i,Hd listed i=decide (i<r))->
  wj P (rl.drop r) K s->Rel G w a s->(∀s' G' w' a',K s'->Rel G' w' a' s'->Step G w s.m G' w' s'.m->Q .normal a' w')->wpAny P .any ops Q fuel listed a w:=by
 obtain⟨x,v⟩:=Ku hc;simp only[xac]at x;have c:∀(r:Nat) (L:Nat->Bool),(∀i,L i=decide (i<r))->Closed (ub ops) L:=by
  intro r L u i b hb hi e he;have:=hf.back i b hb e he
  grind
 intro n
 induction n with
 |zero=>
  intro r fuel listed s G w a hn k hq hr f u t d hQ;have hrn:r=ops.size:=by omega
  have o:Region.ready .any ops listed=[]:=by
   cases hre:Region.ready .any ops listed with
   |nil=>rfl
   |cons i l=>
    obtain⟨M,h2,-⟩:=Vu hf f (c r _ u) (i:=i) (by simp_all)
    simp_all
  rw[Aac (by omega)]at t;have g:=hQ s G w a t d (Step.refl _ _ _)
  cases fuel with
  |zero=>exact⟨o,g⟩
  |succ fuel=>exact⟨λ_=>g,λi hi=>by simp_all⟩
 |succ n O=>
  intro r fuel listed s G w a hn k hq hr f u t d hQ
  cases fuel with
  |zero=>omega
  |succ fuel=>
   have z:r<ops.size:=by omega
   refine⟨λF=>?_,λi hi=>?_⟩
   .have:=ky hf f F r z
    simp_all
   .obtain⟨M,h2,N,h4,h5⟩:=Vu hf f (c r _ u) hi;have E:i=r:=by
     rw[u]at h2;simp at h2;rcases dac r i with h|h
     .have:=N r (by omega) (hf.tail r i h (by omega) (by omega))
      simp_all
     omega
    subst E;have ho:ops[i]?=some ops[i]:=Tab M;obtain⟨T,hri,D⟩:=v i ops[i] (by simp);have y:rl.drop i=T::rl.drop (i+1):=by
     grind[mab]
    rw[y]at t;refine regT_op D t d ho λC p H=>?_;refine O (i+1) fuel (listed.setIfInBounds i true) _ _ _ _ (by omega) (by omega) (by omega) (by omega) (by simp[f]) (λj=>?_) C p λI A J B R S k3=>hQ I A J B R S (H.trans k3)
    grind
theorem lH{dst:Nat->Option Tmp}{dd:Nat->D}{L a:Nat->Bool}(t0:List D):∀n,(∀j,j<n->L j=a j)->tS dst dd L t0 n=tS dst dd a t0 n
 |0,_=>rfl
 |n+1,h=>by simp only[tS,h n (by omega),lH t0 n λj hj=>h j (by omega)]
theorem uG{xx:Nat->List Ent}{L a:Nat->Bool}(m0:List Ent):∀n,(∀j,j<n->L j=a j)->mS xx L m0 n=mS xx a m0 n
 |0,_=>rfl
 |n+1,h=>by simp only[mS,h n (by omega),uG m0 n λj hj=>h j (by omega)]
theorem AJ{a:Nat->Bool}(n:Nat) (h:∀j,j<n->L j=a j):wA rl os s0 L n=wA rl os s0 a n:=by
 grind[wA,lH,uG]
theorem count_tail(q:Nat):∀n,((xaa n).filter λj=>!decide (j<q)).length=n-q
 |0=>by simp
 |n+1=>by
  rw[List.range_succ,List.filter_append,Faa,count_tail q n]
  grind
theorem getD_some(h:i<l.length) (d:RI):l[i]?=some (l.getD i d):=by
 simp_all
theorem JU(hc:Hg P ops ops.toList=some rl) (hf:DrawFacts (ub ops) rl q) 
 (I:∀i,i<q->xA P (rl.getD i (.op none none (.mv (.const undef)))) (wA rl os s0 (λ_=>true) i) (os.getD i (.dead,[])).1 (os.getD i (.dead,[])).2)
 (B:∀i,i<q->(os.getD i (.dead,[])).2≠[]->(rl.getD i (.op none none (.mv (.const undef)))).cls=2)
 (hT:wj P (rl.drop q) K (wA rl os s0 (λ_=>true) q)) :
 ∀(fuel:Nat) (listed:Array Bool) (G:Gh) (w:World) (a:Act),((xaa ops.size).filter λj=>!Hd listed j).length<=fuel->listed.size=ops.size->Closed (ub ops) (Hd listed)->
  (∀j,q<=j->Hd listed j=false)->Rel G w a (wA rl os s0 (Hd listed) q)->
  (∀s' G' w' a',K s'->Rel G' w' a' s'->Step G w (wA rl os s0 (Hd listed) q).m G' w' s'.m->Q .normal a' w')->wpAny P .any ops Q fuel listed a w:=by
 obtain⟨N,J⟩:=Ku hc;simp only[xac]at N;have hq:=hf.hq;intro fuel
 induction fuel with
 |zero=>
  intro listed G w a c p u E v hQ;have F:∀i,i<ops.size->Hd listed i=true:=by
   simp_all
  have hqn:q=ops.size:=by
   rcases dac q ops.size with h|h
   all_goals grind
  have C:wA rl os s0 (Hd listed) q=wA rl os s0 (λ_=>true) q:=AJ q λj hj=>F j (by omega);refine My hc hf.toTailFacts 0 q 0 listed _ G w a (by omega) (Haa _) (Haa _) (by omega) p (λi=>?_) hT (by simp_all) (by grind)
  grind
 |succ fuel ih=>
  intro listed G w a c p u E v hQ;by_cases b:∀j,j<q->Hd listed j=true
  ·
    have C:wA rl os s0 (Hd listed) q=wA rl os s0 (λ_=>true) q:=AJ q λj hj=>b j hj;have hL:∀i,Hd listed i=decide (i<q):=λi=>by
     grind
    have hcnt:=count_tail q ops.size;simp only[hL]at c;exact My hc hf.toTailFacts (ops.size-q) q (fuel+1) listed _ G w a rfl (by omega) (Haa _) (by omega) p hL hT (by simp_all) (by grind)
  .refine⟨λhno=>(b λj hj=>ky hf.toTailFacts p hno j (by omega)).elim,λi hi=>?_⟩;obtain⟨h1,h2,h3,h4,V⟩:=Vu hf.toTailFacts p u hi;have n:i<q:=by
    rcases dac i q with h|h
    .exact h
    .exact(b λj hj=>h3 j (by omega) (hf.tail j i (by omega) h (by omega))).elim
   have hri:=getD_some (l:=rl) (i:=i) (by omega) (.op none none (.mv (.const undef)));obtain⟨r,hr,Z⟩:=J i ops[i] (by simp);have hrr:rl.getD i (.op none none (.mv (.const undef)))=r:=by simp_all
   have early:∀j x,j<i->rl[j]?=some x->Dz x r=true->Hd listed j=true:=λj x hj hx d=>h3 j (by omega) (hf.apart j i x r hj n hx hr d);have late:∀j y,i<j->j<q->rl[j]?=some y->Dz r y=true->Hd listed j=false:=by
    intro j y hj hjq hy d;rcases hb:Hd listed j with _|_
    .rfl
    .have:=Ut u hb (hf.apart i j r y hj hjq hr hy d)
     simp_all
   have g:∀j,j<q->rl[j]?=some (rl.getD j (.op none none (.mv (.const undef)))):=λj hj=>getD_some (by omega) _;have hF:=I i n;rw[hrr]at hF;have A:r.cls<=2:=hf.cls i r n hr;have O:∀j,j<q->(os.getD j (.dead,[])).2≠[]->(rl.getD j (.op none none (.mv (.const undef)))).cls=2:=B;have f:∀x y:RI,x.cls=2->y.cls=2->Dz x y=true:=λx y hx hy=>by grind[Dz]
   refine flo_op Z hF (s:=wA rl os s0 (Hd listed) q) ?_ ?_ ?_ A v (Tab h1) ?_
   ·
     intro y hy;refine VN s0.t (by omega) λj hj hd=>?_
     grind[Dz]
   ·
     intro hcls;refine YM s0.m (by omega) λj hj hx=>?_
     grind
   ·
     rintro id ⟨e,he⟩ M;obtain⟨k,hk,R⟩:=JC (xx:=λi=>(os.getD i (.dead,[])).2) (L:=Hd listed) s0.m q λi1 j1 hij hj hx1 hx2 W=>
      Ut u W (hf.apart i1 j1 _ _ hij hj (g i1 (by omega)) (g j1 hj) (f _ _ (O i1 (by omega) hx1) (O j1 hj hx2)))
     simp only[wA]at he M⊢;rw[R]at M⊢;rcases faf i k with h|h
     .obtain⟨rr,S⟩:=HE (xx:=λi=>(os.getD i (.dead,[])).2) s0.m h
      grind
     .obtain⟨rr,S⟩:=HE (xx:=λi=>(os.getD i (.dead,[])).2) s0.m h
      grind
   ·
     intro G' w' a' o hs';have C:after (wA rl os s0 (Hd listed) q) r (os.getD i (.dead,[])).1 (os.getD i (.dead,[])).2=wA rl os s0 (Hd (listed.setIfInBounds i true)) q:=by
      obtain⟨X,Y⟩:=JJ (wA rl os s0 (Hd listed) q) r (os.getD i (.dead,[])).1 (os.getD i (.dead,[])).2;have H:∀z:St,z=⟨z.t,z.m⟩:=λz=>rfl;rw[H (after _ _ _ _),X,Y];simp only[wA,St.mk.injEq];constructor
      .rw[rT s0.t h2 V n ?_]
       all_goals grind[Dz]
      .rw[DS s0.m h2 V n ?_]
       grind
     rw[C]at o;refine ih (listed.setIfInBounds i true) G' w' a' ?_ (by grind) h4 ?_ o ?_
     .have:=filter_lt h2 V (l:=xaa ops.size) (by grind);omega
     .grind
     .intro s'' T w'' U k1 k2 k3;refine hQ s'' T w'' U k1 k2 (hs'.trans ?_)
      grind[JJ]
theorem wK{x:List Ent}(h:xA P r s d x) (a:r.cls<=2) (hx:x≠[]):r.cls=2:=by
 cases r with
 |call dst g f args=>
  obtain⟨_,_,_,_,h,_⟩:=h
  simp_all
 |op dst g i=>
  rcases h with⟨-,h⟩|⟨-,-,h⟩
  .simp only[RI.cls]at a⊢;rcases dac i.cls 2 with h2|h2
   .obtain⟨hm,-⟩:=Ap (s:=s) (s':=s) (by omega) (λ_ _=>rfl) (λ_ _ _ _=>rfl) h
    simp_all
   omega
  simp_all
theorem wP(Hw:P.follows .mixedOrders=true) (hc:Hg P ops ops.toList=some rl) (g:uC (ub ops) rl q=true) {s1:St}(p:CL P (rl.take q) s os s1) (r:wj P (rl.drop q) K s1)
 {G:Gh} {w:World} (hr:Rel G w a s) (hQ:∀s' G' w' a',K s'->Rel G' w' a' s'->Step G w s.m G' w' s'.m->Q .normal a' w'):(Code.region id ops true).wp P Q a w:=by
 have hf:=Ht g;have c:(rl.take q).length=q:=by rw[iab];have:=hf.hq;omega
 have e:=p.length;rw[c]at e;have o:wA rl os s (λ_=>true) 0=s:=rfl;obtain⟨g1,g2⟩:=CL.get (rl:=rl) (os:=os) (s0:=s) (k:=0) (l:=rl.take q) (os':=os) (s':=s1) (by simp) (by simp) (by rw[o];omega);simp only[c,Jab]at g1 g2;subst g2;have f:∀j,Hd (eac ops.size false) j=false:=by
  intro j;unfold Hd;simp only[Xac,Rad]
  grind
 have d:wA rl os s (Hd (eac ops.size false)) q=s:=by
  have ht:∀n,tS (λi=>(rl.getD i (.op none none (.mv (.const undef)))).dst) (λi=>(os.getD i (.dead,[])).1) (Hd (eac ops.size false)) s.t n=s.t:=by
   intro n
   induction n with
   |zero=>rfl
   |succ n u=>simp_all[tS]
  have hm:∀n,mS (λi=>(os.getD i (.dead,[])).2) (Hd (eac ops.size false)) s.m n=s.m:=by
   intro n
   induction n with
   |zero=>rfl
   |succ n u=>simp_all[mS]
  grind[wA]
 refine wp_region_any Hw ?_;have h:=Same.drew w;refine JU hc hf g1 (λi hi hx=>wK (g1 i hi) (hf.cls i _ hi (getD_some (by grind) _)) hx) r ops.size _ G _ a ?_ (by simp) ?_ (λj _=>f j) ?_ ?_
 .grind
 .intro i b _ hi
  simp_all
 .rw[d];exact⟨hr.t.mono (h.le G),h.inv hr.inv,hr.defers⟩
 .intro s' G' w' a' v x k3;rw[d]at k3;exact hQ s' G' w' a' v x ((h.step G s.m).trans k3)
end
end
section
variable {P:Program} {N:Nat}
def AL(P:Program):Nat->List RI->(St->Prop)->St->Prop
 |0,l,K,s=>wj P l K s
 |_+1,[],_,_=>False
 |q+1,.op dst g i::l,K,s=>
  match gate s g with
  |none=>False
  |some none=>∃d m',da s i=some (d,m')/\AL P q l K ({ s with m:=m' }.put dst d)
  |some (some (c,b))=>(c=b->∃d m',da s i=some (d,m')/\AL P q l K ({ s with m:=m' }.put dst d))/\(c≠b->AL P q l K (s.put dst (.v undef)))
 |q+1,.call dst g f args::l,K,s=>
  match s.cv f with
  |.fn k first caps=>
   match gate s g with
   |none=>False
   |some none=>∃d,(∀m,CallT P k (first++args.map s.ev++caps) m λd' m'=>d'=d/\m'=m)/\AL P q l K (s.put dst d)
   |some (some (c,b))=>(c=b->∃d,(∀m,CallT P k (first++args.map s.ev++caps) m λd' m'=>d'=d/\m'=m)/\AL P q l K (s.put dst d))/\(c≠b->AL P q l K (s.put dst (.v undef)))
  |_=>False
section
variable {ops:Array Oper} {Q:Exit->Act->World->Prop} {K:St->Prop} {rl:List RI} {q:Nat}
end
theorem Ly:∀{q:Nat}{l:List RI}{K:St->Prop}{s:St},AL P q l K s->(∀(j:Nat) y,j<q->l[j]?=some y->y.cls<=2)->∃os s1,CL P (l.take q) s os s1/\wj P (l.drop q) K s1
 |0,l,K,s,h,_=>⟨[],s,by simp[CL],by simpa [AL] using h⟩
 |q+1,[],K,s,h,_=>by simp[AL]at h
 |q+1,.op dst g i::l,K,s,h,hc=>by
  have hci:i.cls<=2:=hc 0 _ (by omega) rfl;have o:∀(j:Nat) y,j<q->l[j]?=some y->y.cls<=2:=λj y hj u=>hc (j+1) y (by omega) (by simp_all);have ext:∀{d:D} {m':List Ent},da s i=some (d,m')->∃x,m'=s.m++x:=λ{d m'} he=>by
   rcases dac i.cls 2 with h2|h2
   .exact⟨[],by rw[Taa];exact(Ap (s:=s) (s':=s) (by omega) (λ_ _=>rfl) (λ_ _ _ _=>rfl) he).1⟩
   .obtain⟨-,e,h⟩:=VF (s:=s) (s':=s) (by omega) (λ_ _=>rfl) rfl he
    simp_all
  have on:∀{d:D} {m':List Ent},da s i=some (d,m')->(gate s g=some none\/∃c,gate s g=some (some (c,c)))->AL P q l K ({ s with m:=m' }.put dst d)->
   ∃os s1,CL P ((RI.op dst g i::l).take (q+1)) s os s1/\wj P ((RI.op dst g i::l).drop (q+1)) K s1:=by
   intro d m' he p r;obtain⟨x,rfl⟩:=ext he;obtain⟨os,s1,t,h2⟩:=Ly r o;exact⟨(d,x)::os,s1,by simp only[yab,CL];exact⟨d,x,os,rfl,.inl ⟨p,he⟩,t⟩,by simp_all⟩
  simp only[AL]at h;split at h
  .simp_all
  .grind
  .rename_i c b p;by_cases n:c=b
   .subst n;obtain⟨d,m',he,r⟩:=h.1 rfl
    simp_all
   .obtain⟨os,s1,t,h2⟩:=Ly (h.2 n) o;refine⟨(.v undef,[])::os,s1,?_,by simp_all⟩;simp only[yab,CL];refine⟨_,_,os,rfl,.inr ⟨⟨c,b,p,n⟩,rfl,rfl⟩,?_⟩;have:after s (.op dst g i) (.v undef) []=s.put dst (.v undef):=by unfold after;rw[Taa];rfl
    simp_all
 |q+1,.call dst g f args::l,K,s,h,hc=>by
  have o:∀(j:Nat) y,j<q->l[j]?=some y->y.cls<=2:=λj y hj u=>hc (j+1) y (by omega) (by simp_all);have haf:∀d,after s (.call dst g f args) d []=s.put dst d:=λd=>by unfold after;rw[Taa];rfl
  simp only[AL]at h;split at h
  .rename_i k first caps hf
   split at h
   .simp_all
   .rename_i p;obtain⟨d,a,r⟩:=h;obtain⟨os,s1,t,h2⟩:=Ly r o;refine⟨(d,[])::os,s1,?_,by simp_all⟩;simp only[yab,CL];exact⟨d,[],os,rfl,⟨k,first,caps,hf,rfl,.inl ⟨.inl p,a⟩⟩,by simp_all⟩
   .rename_i c b p;by_cases n:c=b
    .subst n;obtain⟨d,a,r⟩:=h.1 rfl;obtain⟨os,s1,t,h2⟩:=Ly r o;refine⟨(d,[])::os,s1,?_,by simp_all⟩;simp only[yab,CL];exact⟨d,[],os,rfl,⟨k,first,caps,hf,rfl,.inl ⟨.inr ⟨c,p⟩,a⟩⟩,by simp_all⟩
    .obtain⟨os,s1,t,h2⟩:=Ly (h.2 n) o;refine⟨(.v undef,[])::os,s1,?_,by simp_all⟩;simp only[yab,CL];exact⟨_,[],os,rfl,⟨k,first,caps,hf,rfl,.inr ⟨⟨c,b,p,n⟩,rfl⟩⟩,by simp_all⟩
  simp_all
theorem T.draw{q:Nat}{l:List RI}{K:Exit->St->Prop}{s:St}(hm:P.follows .mixedOrders=true) (h:AL P q l (K .normal) s):T P N (.draw q l) K s:=by
 intro code hc G w a hN hr;obtain⟨id,ops,rfl,c,b⟩:=qC hc;obtain⟨os,s1,d,h2⟩:=Ly h (Ht b).cls;exact wP hm c b d h2 hr λs' G' w' a' e f k3=>⟨s',G',e,f,k3.T5 hN⟩
end
section
variable (ww:Nat->Option (Nat×Ent)) (L:Nat->Bool)
def sS(m:List Ent):Nat->List Ent
 |0=>m
 |n+1=>if L n then(match ww n with|some (id,e)=>(sS m n).set id e|none=>sS m n)else sS m n
def jy(id:Nat):Nat->Option Ent
 |0=>none
 |n+1=>if L n then(match ww n with|some (j,e)=>if j=id then some e else jy id n|none=>jy id n)else jy id n
end
section
variable {ww:Nat->Option (Nat×Ent)} {L:Nat->Bool}
theorem fo(m:List Ent):∀n,(sS ww L m n).length=m.length
 |0=>rfl
 |n+1=>by
  simp only[sS]
  repeat' split
  all_goals simp[fo m n]
theorem dH(m:List Ent) (id:Nat):∀n,id<m.length->(sS ww L m n)[id]?=(match jy ww L id n with|some e=>some e|none=>m[id]?)
 |0,h=>rfl
 |n+1,h=>by
  simp only[sS,jy];split
  .split
   .rename_i j e hw;rw[Wad];by_cases hj:j=id
    .subst hj;rw[if_pos rfl,if_pos rfl,if_pos (by grind[fo])]
    .rw[if_neg hj,if_neg hj];exact dH m id n h
   .exact dH m id n h
  .exact dH m id n h
theorem ZP:∀{q:Nat},i<=q->(∀j,j<q->∀e,ww j=some (id,e)->(L j=true↔j<i))->jy ww L id q=jy ww (λ_=>true) id i:=by
 have h1:∀n,n<=i->(∀j,j<n->∀e,ww j=some (id,e)->L j=true)->jy ww L id n=jy ww (λ_=>true) id n:=by
  intro n
  induction n with
  |zero=>intro _ _;rfl
  |succ n a=>
   grind[jy]
 intro q
 induction q with
 |zero=>
  simp_all
 |succ q a=>
  grind[jy]
theorem IQ(m x:List Ent):∀n,(∀j,j<n->L j=true->∀id e,ww j=some (id,e)->id<m.length)->sS ww L (m++x) n=sS ww L m n++x
 |0,_=>rfl
 |n+1,h=>by
  have ih:=IQ m x n λj hj=>h j (by omega);simp only[sS];split
  .rename_i hL;split
   all_goals grind[fo]
  omega
theorem sS_step(m:List Ent) {a:Nat->Bool}(hi:L i=false) (hL':∀j,a j=(L j || j==i)):∀{q:Nat},i<q->(∀j,i<j->j<q->L j=true->∀id e e',ww i=some (id,e)->ww j≠some (id,e'))->
 sS ww a m q=(match ww i with|some (id,e)=>(sS ww L m q).set id e|none=>sS ww L m q):=by
 have hlow:∀n,n<=i->sS ww a m n=sS ww L m n:=by
  intro n
  induction n with
  |zero=>intro _;rfl
  |succ n d=>
   grind[sS]
 intro q
 induction q with
 |zero=>omega
 |succ q d=>
  intro hq hw;by_cases hqi:q=i
  .simp_all[sS]
  .have f:a q=L q:=by simp_all
   have c:=d (by omega) λj hj hjq=>hw j hj (by omega);simp only[sS,f,c]
   cases hdi:ww i with
   |none=>simp
   |some p=>
    obtain⟨id,e⟩:=p;simp only;split
    .rename_i hLq;split
     .rename_i b e' hz;have hne:id≠b:=by
       grind
      grind[aaf]
     .rfl
    .rfl
end
def I.LW:I->Option Operand
 |.store _ x _=>some x
 |.trunc _ x _ _=>some x
 |.append _ _ x _=>some x
 |_=>none
def I.src:I->Option Operand
 |.append _ _ _ y=>some y
 |_=>none
def ag(s:St):I->Bool
 |.trunc _ x _ _=>match s.ev x with|.own ..=>true|_=>false
 |.append _ _ x _=>match s.ev x with|.own ..=>true|_=>false
 |_=>true
theorem RE{i:I}(h:i.LW=some x):i.cls=3/\((∃n y,i=.store n x y)\/(∃S lo hi,i=.trunc S x lo hi)\/∃S b y,i=.append S b x y):=by
 cases i<;>simp[I.LW]at h
 .subst h;exact⟨rfl,.inl ⟨_,_,rfl⟩⟩
 .subst h;exact⟨rfl,.inr (.inr ⟨_,_,_,rfl⟩)⟩
 .subst h;exact⟨rfl,.inr (.inl ⟨_,_,_,rfl⟩)⟩
theorem KP{m1:List Ent}(he:da s (.store n x y)=some (d,m1)) :
 ∃id e,Ud (s.ev x)=some id/\m1=s.m.set id e/\(∃e0,s.m[id]?=some e0)/\
  ∀s':St,(∀t∈(I.store n x y).reads,s'.t.getD t .dead=s.t.getD t .dead)->s'.m[id]?=s.m[id]?->da s' (.store n x y)=some (d,s'.m.set id e):=by
 simp only[da]at he;split at he
 .rename_i id Ma ix sub hx;split at he
  .rename_i S ver' l hm;split at he
   .rename_i hc;simp only[jac]at he;obtain⟨d0,h0,he⟩:=he;split at he
    .rename_i hc2;injection he with he;injection he with a h2;subst a;subst h2;refine⟨id,_,by rw[hx];rfl,rfl,⟨_,hm⟩,λs' ht hm'=>?_⟩;have ex:s'.ev x=s.ev x:=wa (λt h=>ht t (by grind[I.reads]));have ey:s'.ev y=s.ev y:=wa (λt h=>ht t (by grind[I.reads]))
     simp_all[da]
    simp_all
   simp_all
  simp_all
 simp_all
theorem LP{lo hi:Option Operand}{m1:List Ent}(hb:ag s (.trunc S x lo hi)=true) (he:da s (.trunc S x lo hi)=some (d,m1)) :
 ∃id e,Ud (s.ev x)=some id/\m1=s.m.set id e/\(∃e0,s.m[id]?=some e0)/\
  ∀s':St,(∀t∈(I.trunc S x lo hi).reads,s'.t.getD t .dead=s.t.getD t .dead)->s'.m[id]?=s.m[id]?->da s' (.trunc S x lo hi)=some (d,s'.m.set id e):=by
 simp only[ag]at hb;split at hb
 .rename_i id Ma hx;simp only[da,hx]at he;split at he
  .rename_i S' ver' l hm;split at he
   .rename_i a h hlo hhi;split at he
    .rename_i hc;injection he with he;injection he with b h2;subst b;subst h2;refine⟨id,_,by rw[hx];rfl,rfl,⟨_,hm⟩,λs' ht hm'=>?_⟩;have ex:s'.ev x=s.ev x:=wa (λt h=>ht t (by grind[I.reads]));have e1:bound s' 0 lo=bound s 0 lo:=zp (λt h=>ht t (by grind[I.reads]));have e2:bound s' l.length hi=bound s l.length hi:=zp (λt h=>ht t (by grind[I.reads]))
     simp_all[da]
    simp_all
   simp_all
  simp_all
 simp_all
theorem AF{m m':List Ent}(h:∀id,Ud d=some id->m'[id]?=m[id]?):contents S m' d=contents S m d:=by
 cases d with
 |own id v=>simp only[contents];rw[h _ rfl]
 |view id v a b=>simp only[contents];rw[h _ rfl]
 |v x=>simp only[contents];grind
 |_=>rfl
theorem MP{m1:List Ent}(hb:ag s (.append S b x y)=true) (he:da s (.append S b x y)=some (d,m1)) :
 ∃id e,Ud (s.ev x)=some id/\m1=s.m.set id e/\(∃e0,s.m[id]?=some e0)/\
  ∀s':St,(∀t∈(I.append S b x y).reads,s'.t.getD t .dead=s.t.getD t .dead)->s'.m[id]?=s.m[id]?->(∀a,Ud (s.ev y)=some a->s'.m[a]?=s.m[a]?)->da s' (.append S b x y)=some (d,s'.m.set id e):=by
 simp only[ag]at hb;split at hb
 .rename_i id Ma hx;simp only[da,hx]at he;split at he
  .rename_i r hr;split at he
   .rename_i S' ver' l hm;split at he
    .rename_i hc;injection he with he;injection he with g h2;subst g;subst h2;refine⟨id,_,by rw[hx];rfl,rfl,⟨_,hm⟩,λs' ht c i=>?_⟩;have ex:s'.ev x=s.ev x:=wa (λt h=>ht t (by grind[I.reads]));have f:s'.ev y=s.ev y:=wa (λt h=>ht t (by grind[I.reads]));simp only[da,ex,hx,c,hm,f,AF i,hr]
     simp_all
    simp_all
   simp_all
  simp_all
 simp_all
theorem SI{i:I}{m1:List Ent}(ht:i.LW=some x) (hb:ag s i=true) (he:da s i=some (d,m1)) :
 ∃id e,Ud (s.ev x)=some id/\m1=s.m.set id e/\(∃e0,s.m[id]?=some e0)/\
  (∀s':St,(∀t∈i.reads,s'.t.getD t .dead=s.t.getD t .dead)->s'.m[id]?=s.m[id]?->(∀y,i.src=some y->∀a,Ud (s.ev y)=some a->s'.m[a]?=s.m[a]?)->da s' i=some (d,s'.m.set id e)):=by
 rcases(RE ht).2 with⟨n,y,rfl⟩|⟨S,lo,hi,rfl⟩|⟨S,b,y,rfl⟩
 .grind[KP]
 .grind[LP]
 .obtain⟨id,e,c,h2,f,g⟩:=MP hb he;exact⟨id,e,c,h2,f,λs' h j k3=>g s' h j (k3 y rfl)⟩
theorem uK{i:I}{m1:List Ent}(f:i.src=some y) (he:da s i=some (d,m1)) (h:Ud (s.ev y)=some id):∃e,s.m[id]?=some e:=by
 obtain⟨S,b,x,rfl⟩:∃S b x,i=.append S b x y:=by cases i<;>simp[I.src]at f;simp_all
 simp only[da]at he;split at he
 .rename_i r hr
  cases g:s.ev y with
  |own a b=>grind[Ud,contents]
  |view a b c e=>grind[Ud,contents]
  |ref a b c e=>grind[contents]
  |mp a=>grind[contents]
  |_=>rw[g]at h;simp[Ud]at h
 simp_all
theorem MW{i:I}(ht:i.LW=some x):∀t∈tf x,t∈i.reads:=by
 rcases(RE ht).2 with⟨n,y,rfl⟩|⟨S,lo,hi,rfl⟩|⟨S,b,y,rfl⟩<;>intro t h<;>simp[I.reads,h]
theorem VQ{i:I}(ht:i.LW=some x):i.at?=none:=by
 rcases(RE ht).2 with⟨n,y,rfl⟩|⟨S,lo,hi,rfl⟩|⟨S,b,y,rfl⟩<;>rfl
theorem xD{i:I}(hc:i.cls=2) (ht:∀t∈i.reads,s'.t.getD t .dead=s.t.getD t .dead) (hm:s'.m.length=s.m.length) {m1:List Ent}(he:da s i=some (d,m1)) :
 ∃e,m1=s.m++[e]/\da s' i=some (d,s'.m++[e]):=by
 cases i with
 |alloc S z=>
  simp only[da,Vaa,Naa]at he⊢
  simp_all
 |box S x=>
  simp only[da]at he⊢;rw[wa (s:=s) (s':=s') (x:=x) (λt h=>ht t (by grind[I.reads]))]
  simp_all
 |bslice S n z ps=>
  grind[da,I.reads,xr,paa]
 |mkslice S b z l c=>
  simp only[da]at he⊢;rw[wa (s:=s) (s':=s') (x:=l) (λt h=>ht t (by grind[I.reads])),wa (s:=s) (s':=s') (x:=c) (λt h=>ht t (by grind[I.reads]))]
  grind
 |mkmap=>
  simp only[da,Vaa,Naa]at he⊢
  simp_all
 |_=>simp[I.cls]at hc
mutual
def Wl:D->List Nat
 |.agg l=>Gk l
 |.tup l=>Gk l
 |.sl _ l=>Gk l
 |.pt d=>Wl d
 |.fn _ a b=>Gk a++Gk b
 |.ifc _ d=>Wl d
 |.own id _=>[id]
 |.view id _ _ _=>[id]
 |.ref id _ _ _=>[id]
 |.mp id=>[id]
 |.v _=>[]
 |.dead=>[]
def Gk:List D->List Nat
 |[]=>[]
 |d::l=>Wl d++Gk l
end
mutual
theorem BK:∀{d:D},pa d=true->Wl d=[]
 |.v _,_=>rfl
 |.agg l,h=>by simp only[pa]at h;simp only[Wl,cu h]
 |.tup l,h=>by simp only[pa]at h;simp only[Wl,cu h]
 |.sl _ l,h=>by simp only[pa]at h;simp only[Wl,cu h]
 |.pt d,h=>by simp only[pa]at h;simp only[Wl,BK h]
 |.fn _ a b,h=>by simp only[pa,zaa]at h;simp only[Wl,cu h.1,cu h.2,Taa]
 |.ifc _ d,h=>by simp only[pa]at h;simp only[Wl,BK h]
 |.own ..,h=>by grind[pa]
 |.view ..,h=>by grind[pa]
 |.ref ..,h=>by grind[pa]
 |.mp _,h=>by grind[pa]
 |.dead,_=>rfl
theorem cu:∀{l:List D},fa l=true->Gk l=[]
 |[],_=>rfl
 |d::l,h=>by simp only[fa,zaa]at h;simp only[Gk,BK h.1,cu h.2,Taa]
end
def Fb(s:St):List Operand->List Nat
 |[]=>[]
 |x::l=>Wl (s.ev x)++Fb s l
theorem cD{s:St}:∀{l:List Operand},Fb s l=Gk (l.map s.ev)
 |[]=>rfl
 |x::l=>by simp only[Fb,vaa,Gk,cD (l:=l)]
mutual
theorem AE{G:Gh}{w:World}{id:Nat}:∀{d:D}{u:Value},VRel G w d u->id∈Wl d->id<G.n
 |.v x,u,h,hi=>by grind[Wl]
 |.agg l,u,h,hi=>by
  simp only[VRel]at h;simp only[Wl]at hi;obtain⟨cs,rfl,h,-⟩:=h;exact bu h hi
 |.tup l,u,h,hi=>by
  simp only[VRel]at h;simp only[Wl]at hi;obtain⟨cs,rfl,h⟩:=h;exact bu h hi
 |.sl S l,u,h,hi=>by
  simp only[VRel]at h;simp only[Wl]at hi;obtain⟨a,n,c,rfl,-,-,h|⟨b,off,rfl,-,h⟩⟩:=h
  .grind[Gk]
  .exact XI h hi
 |.pt d,u,h,hi=>by
  simp only[VRel]at h;simp only[Wl]at hi;obtain⟨b,off,x,rfl,-,h,-⟩:=h;exact AE h hi
 |.ref a b c e,u,h,hi=>by
  simp only[VRel]at h;grind[Wl]
 |.own a b,u,h,hi=>by
  simp only[VRel]at h;grind[Wl]
 |.view a b c e,u,h,hi=>by
  simp only[VRel]at h;grind[Wl]
 |.fn f a b,u,h,hi=>by
  simp only[VRel]at h;simp only[Wl,Saa]at hi;obtain⟨fs,cs,rfl,g,h2⟩:=h;rcases hi with hi|hi
  .exact bu g hi
  .exact bu h2 hi
 |.mp a,u,h,hi=>by
  simp only[VRel]at h;grind[Wl]
 |.ifc t d,u,h,hi=>by
  simp only[VRel]at h;simp only[Wl]at hi;obtain⟨x,rfl,h⟩:=h;exact AE h hi
 |.dead,u,h,hi=>by grind[Wl]
theorem bu{G:Gh}{w:World}{id:Nat}:∀{l:List D}{us:List Value},VsRel G w l us->id∈Gk l->id<G.n
 |[],us,h,hi=>by grind[Gk]
 |d::l,us,h,hi=>by
  simp only[VsRel]at h;simp only[Gk,Saa]at hi;obtain⟨u,r,rfl,a,h2⟩:=h;rcases hi with hi|hi
  .exact AE a hi
  .exact bu h2 hi
theorem XI{G:Gh}{w:World}{id b S:Nat}:∀{l:List D}{off:Nat},Na G w b S l off->id∈Gk l->id<G.n
 |[],off,h,hi=>by grind[Gk]
 |d::l,off,h,hi=>by
  simp only[Na]at h;simp only[Gk,Saa]at hi;obtain⟨⟨u,a,-⟩,h2⟩:=h;rcases hi with hi|hi
  .exact AE a hi
  .exact XI h2 hi
end
def qt(s:St):List Operand->List Nat
 |[]=>[]
 |x::l=>match Ud (s.ev x)with|some id=>id::qt s l|none=>qt s l
def zm(s:St):RI->List Nat
 |.op _ _ i=>
  match i.at? with
  |some x=>qt s [x]
  |none=>match i.LW with|some x=>qt s (x::i.src.toList)|none=>[]
 |.call _ _ _ args=>Fb s args
theorem BT{l:List Operand}(h:Ud (s.ev x)=some id):id∈qt s (x::l):=by grind[qt]
theorem tops_tl{l:List Operand}(h:id∈qt s l):id∈qt s (x::l):=by grind[qt]
theorem nO(h:Ud (s.ev x)=some id):id∈qt s [x]:=by grind[qt]
abbrev Os:=List (D×List Ent×Option (Nat×Ent))
def os0:D×List Ent×Option (Nat×Ent):=(.dead,[],none)
def fT:RI:=.op none none (.mv (.const undef))
def Cv(P:Program) (r:RI) (s:St) (d:D) (x:List Ent) (w:Option (Nat×Ent)):Prop:=
 match r with
 |.op _ g i=>((gate s g=some none\/∃c,gate s g=some (some (c,c)))/\
  ((w=none/\i.cls<=2/\da s i=some (d,s.m++x))\/(x=[]/\∃a id e,i.LW=some a/\Ud (s.ev a)=some id/\w=some (id,e)/\da s i=some (d,s.m.set id e)/\id<s.m.length/\ag s i=true)))\/
  ((∃c b,gate s g=some (some (c,b))/\c≠b)/\d=.v undef/\x=[]/\w=none)
 |.call _ g f args=>x=[]/\w=none/\
  ((∃k first caps,s.cv f=.fn k first caps/\(gate s g=some none\/∃c,gate s g=some (some (c,c)))/\(∀id∈Fb s args,id<s.m.length)/\∀m,(∀id∈Fb s args,m[id]?=s.m[id]?)->CallT P k (first++args.map s.ev++caps) m λd' m'=>d'=d/\m'=m)\/((∃c b,gate s g=some (some (c,b))/\c≠b)/\d=.v undef))
def wr(m:List Ent) (w:Option (Nat×Ent)):List Ent:=match w with|some (id,e)=>m.set id e|none=>m
def Pk(s:St) (r:RI) (d:D) (x:List Ent) (w:Option (Nat×Ent)):St:=({ s with m:=wr s.m w++x }:St).put r.dst d
theorem iF(s:St) (r:RI) (d:D) (x:List Ent) (w:Option (Nat×Ent)):Pk s r d x w=⟨(match r.dst with|some y=>s.t.set y d|none=>s.t),wr s.m w++x⟩:=by
 grind[Pk,St.put]
section
variable {P:Program}
def KU(rl:List RI) (i:Nat):Option Tmp:=(rl.getD i fT).dst
def ddC(os:Os) (i:Nat):D:=(os.getD i os0).1
def LH(os:Os) (i:Nat):List Ent:=(os.getD i os0).2.1
def KT(os:Os) (i:Nat):Option (Nat×Ent):=(os.getD i os0).2.2
def tn(rl:List RI) (os:Os) (s:St) (L:Nat->Bool) (n:Nat):St:=
 ⟨tS (KU rl) (ddC os) L s.t n,sS (KT os) L (mS (LH os) L s.m n) n⟩
theorem Cv.lt{x:List Ent}{w:Option (Nat×Ent)}(h:Cv P r s d x w) (hw:w=some (id,e)):id<s.m.length/\x=[]/\id∈zm s r:=by
 subst hw
 cases r with
 |call dst g f args=>obtain⟨_,h,_⟩:=h;cases h
 |op dst g i=>
  rcases h with⟨_,⟨h,_⟩|⟨hx,a,id',e',ht,h1,h2,h3,h4,_⟩⟩|⟨_,_,_,h⟩
  all_goals grind[zm,VQ,BT]
theorem zQ{G:Gh}{w:World}(hr:Rel G w a s) (h:Ud (s.ev x)=some id):id<s.m.length:=by
 have hv:=hr.ev x;have hn:=hr.inv.n;generalize s.ev x=d at *;cases d<;>simp only[Ud,reduceCtorEq,Vaa]at h
 .subst h;simp only[VRel]at hv;omega
 .subst h;simp only[VRel]at hv;omega
 .subst h;simp only[VRel]at hv;omega
 .subst h;simp only[VRel]at hv;omega
theorem D9(hc:wo P ops o=some r) {x:List Ent}{H:Option (Nat×Ent)}(hf:Cv P r sc d x H) (ht:∀t∈r.reads,s.t.getD t .dead=sc.t.getD t .dead)
 (hm:r.cls=2->s.m.length=sc.m.length) (U:∀(id:Nat),id∈zm sc r->(∃e,sc.m[id]?=some e)->id<s.m.length->s.m[id]?=sc.m[id]?)
 {G:Gh} {w:World} (hr:Rel G w a s) (hi:ops[i]?=some o) {Q:Exit->Act->World->Prop} {K:Act->World->Prop}
 (Z:∀G' w' a',Rel G' w' a' (Pk s r d x H)->Step G w s.m G' w' (wr s.m H++x)->(∀id e,H=some (id,e)->id<s.m.length)->K a' w'):wpOp P ops Q i K a w:=by
 have O:=qw hc;unfold wpOp;simp only[hi];unfold wo at hc;split at hc
 .grind
 .rename_i g hg;obtain⟨hgate1,hgate2⟩:=cn hr hg;have hgt:gate s g=gate sc g:=eG (λt h=>ht t (by
   split at hc
   .grind[RI.reads]
   .simp only[paa]at hc;obtain⟨i,-,rfl⟩:=hc
    grind[RI.reads]))
  have Y:(gate sc g=some none\/∃c,gate sc g=some (some (c,c)))->Region.wanted o (yielded ops a.tmps)=true:=by
   grind
  have woff:(∃c b,gate sc g=some (some (c,b))/\c≠b)->Region.wanted o (yielded ops a.tmps)=false:=by
   grind
  have skip:d=.v undef->x=[]->H=none->K (a.put o.dst undef) w:=by
   rintro rfl rfl rfl;refine Z G w _ ?_ (by rw[Taa];exact Step.refl _ _ _) (λ_ _ h=>by cases h);unfold Pk;rw[O,Taa];exact yB hr o.dst
  split at hc
  .rename_i f args ho;injection hc with hc;subst hc;obtain⟨rfl,rfl,hf⟩:=hf;have l:args.map s.ev=args.map sc.ev:=map_congr (λt h=>ht t (by grind[RI.reads]));rcases hf with⟨k,first,caps,hfe,E,S,C⟩|⟨V,hd⟩
   .have R:s.cv f=.fn k first caps:=by grind[RI.reads,BF]
    rw[if_pos (Y E)];refine .inl ?_;obtain⟨⟨fn,e1,e2,e3⟩,N⟩:=C s.m λid q=>by
     refine U id q ⟨_,naa (S id q)⟩ ?_;rw[cD,←l]at q;rw[←hr.inv.n];exact bu (Hy hr _) q
    obtain⟨fs,cs,W,hv1,hv2⟩:=By hr ho (KY R) e1 e2 e3;rw[←l]at N;have z:=N G w (fs++args.map a.eval++cs) ((hv1.append (Hy hr _)).append hv2) hr.inv;unfold Oper.wp;rw[W,Oper.upon_enter];refine z.mono ?_;rintro e w' ⟨v,d',m',G',rfl,⟨rfl,rfl⟩,hvd,hi',A⟩;refine Z G' w' _ ?_ (by rw[Taa];exact A) (λ_ _ h=>by cases h);unfold Pk;rw[Taa];exact(hr.step A.le hi').put o.dst hvd
   simp_all
  .rename_i hno;simp only[paa]at hc;obtain⟨j,hj,rfl⟩:=hc;rcases hf with⟨E,p⟩|⟨V,hd,hx,hw⟩
   .rw[if_pos (Y E)];refine .inl ?_;have F:∀t∈j.reads,s.t.getD t .dead=sc.t.getD t .dead:=λt h=>ht t (by grind[RI.reads]);have M:∀y,(∀t∈tf y,t∈j.reads)->s.ev y=sc.ev y:=λy L=>wa (λt h=>F t (L t h));have B:da s j=some (d,wr s.m H++x)/\(∀id e,H=some (id,e)->id<s.m.length):=by
     simp only[RI.cls]at hm;rcases p with⟨rfl,hcls,p⟩|⟨rfl,a1,id,e,htg,X,rfl,p,hlt,hsb⟩
     .refine⟨?_,λ_ _ h=>by cases h⟩;simp only[wr];by_cases h2:j.cls=2
      .grind[xD,List.append_cancel_left]
      .have J:j.cls<=1:=by omega
       obtain⟨hxm,hres⟩:=Ap (s:=sc) (s':=s) J F (λy id L q=>by
        have hevy:s.ev y=sc.ev y:=M y (λt h=>by
         cases j<;>simp only[I.at?,reduceCtorEq,Vaa]at L<;>subst L<;>simp[I.reads,h])
        grind[zm,nO,wD,zQ]) p
       simp_all
     .obtain⟨id',e',J,h2,h3,h4⟩:=SI htg hsb p;rw[X]at J;injection J with J;subst J;have T:id<s.m.length:=zQ hr (x:=a1) (by grind[MW]);have hee:e=e':=by
       have:=congrArg (λm=>m[id]?) h2
       grind
      subst hee;refine⟨?_,λid2 e2 h=>by simp_all⟩;rw[Taa];refine h4 s F (U id (by grind[zm,VQ,BT]) h3 T) λy L id' hid'=>?_;have hey:s.ev y=sc.ev y:=M y (by
       cases j<;>simp[I.src]at L
       grind[I.reads])
      grind[zm,VQ,tops_tl,nO,zQ,uK]
    exact hr.cr (Dy hj hr B.1) λG' w' u hr' A=>Z G' w' _ hr' A B.2
   simp_all
end
def RI.mE(y:RI):Bool:=
 match y with
 |.op _ _ i=>decide (i.cls<=2) || i.LW.isSome
 |.call ..=>true
section
variable {P:Program} {ops:Array Oper} {Q:Exit->Act->World->Prop} {K:St->Prop} {rl:List RI} {q:Nat} {ps:List (List Nat)}
end
def lN:Nat->Nat->Bool
 |0,0=>false
 |0,_+1=>true
 |_+1,0=>true
 |a+1,b+1=>lN a b
theorem B1:∀{a b:Nat},lN a b=true->a≠b
 |0,0,h=>by grind[lN]
 |0,_+1,_=>by omega
 |_+1,0,_=>by omega
 |a+1,b+1,h=>by have:=B1 (a:=a) (b:=b) h;omega
def Mx(a:Nat):List Nat->Bool
 |[]=>true
 |b::l=>lN a b&&Mx a l
def Qp:List Nat->List Nat->Bool
 |[],_=>true
 |a::l,r=>Mx a r&&Qp l r
theorem yI{a b:Nat}:∀{l:List Nat},Mx a l=true->b∈l->a≠b
 |[],_,h=>by cases h
 |c::l,h,hm=>by
  simp only[Mx,zaa]at h;rcases lab.1 hm with rfl|hm
  .grind[B1]
  .exact yI h.2 hm
theorem zI{a:Nat}:∀{l r:List Nat},Qp l r=true->a∈l->a∉r
 |[],_,_,h=>by cases h
 |c::l,r,h,hm=>by
  simp only[Qp,zaa]at h;rcases lab.1 hm with rfl|hm
  .exact λhr=>yI h.1 hr rfl
  .exact zI h.2 hm
def rA(fp:List (List Nat)) (f:List Nat):List Nat->Bool
 |[]=>true
 |i::l=>Qp (fp.getD i []) f&&rA fp f l
theorem uE{fp:List (List Nat)}{f:List Nat}{k:Nat}:∀{l:List Nat},rA fp f l=true->k∈l->Qp (fp.getD k []) f=true
 |[],_,h=>by cases h
 |z::l,h,hm=>by
  simp only[rA,zaa]at h;rcases lab.1 hm with rfl|hm
  .grind
  .exact uE h.2 hm
def fx(P:Program):List (List Nat)->List (List Nat)->Nat->List RI->(St->Prop)->St->Prop
 |_,_,0,l,K,s=>wj P l K s
 |_,_,_+1,[],_,_=>False
 |ps,fp,q+1,.op dst g i::l,K,s=>
  rA fp (zm s (.op dst g i)) (ps.headD [])=true/\
  match gate s g with
  |none=>False
  |some none=>∃d m',ag s i=true/\da s i=some (d,m')/\fx P ps.tail (fp++[zm s (.op dst g i)]) q l K ({ s with m:=m' }.put dst d)
  |some (some (c,b))=>(c=b->∃d m',ag s i=true/\da s i=some (d,m')/\fx P ps.tail (fp++[zm s (.op dst g i)]) q l K ({ s with m:=m' }.put dst d))/\(c≠b->fx P ps.tail (fp++[zm s (.op dst g i)]) q l K (s.put dst (.v undef)))
 |ps,fp,q+1,.call dst g f args::l,K,s=>
  match s.cv f with
  |.fn k first caps=>
   match gate s g with
   |none=>False
   |some none=>rA fp (Fb s args) (ps.headD [])=true/\∃d,((∀id∈Fb s args,id<s.m.length)/\∀m,(∀id∈Fb s args,m[id]?=s.m[id]?)->CallT P k (first++args.map s.ev++caps) m λd' m'=>d'=d/\m'=m)/\fx P ps.tail (fp++[Fb s args]) q l K (s.put dst d)
   |some (some (c,b))=>rA fp (Fb s args) (ps.headD [])=true/\(c=b->∃d,((∀id∈Fb s args,id<s.m.length)/\∀m,(∀id∈Fb s args,m[id]?=s.m[id]?)->CallT P k (first++args.map s.ev++caps) m λd' m'=>d'=d/\m'=m)/\fx P ps.tail (fp++[Fb s args]) q l K (s.put dst d))/\(c≠b->fx P ps.tail (fp++[Fb s args]) q l K (s.put dst (.v undef)))
  |_=>False
section
variable {P:Program} {K:St->Prop}
end
section
variable {P:Program} {N:Nat} {ops:Array Oper} {Q:Exit->Act->World->Prop} {K:St->Prop} {rl:List RI} {q:Nat} {ps:List (List Nat)}
end
open Go.RowKit (Below)
theorem DC{G:Gh}{w:World}{m:List Ent}(hi:Inv G w m) (hm:m[p]?=some (.live S Ma [])) (l:List D) (C:Nat) (cs:Array Value) (T:TypeId)
 (hr:Gg G w S l cs) (hC:l.length<=C) (hcs:C*S<=cs.size) :
 Inv (G.Uf p (some w.heap.size) (Ma+1) l.length (C,0)) (w.alloc (.cells cs T)) (m.set p (.live S (Ma+1) l))/\
  Step G w m (G.Uf p (some w.heap.size) (Ma+1) l.length (C,0)) (w.alloc (.cells cs T)) (m.set p (.live S (Ma+1) l)):=by
 have a:∀k,k<w.heap.size->(w.alloc (.cells cs T)).heap[k]?=w.heap[k]?:=λk hk=>Below.heap_alloc _ _ _ hk;obtain⟨hV,hS,-⟩:=hi.ent p _ hm;refine tg hi hm rfl rfl _ _ _ _ (.inl (by omega)) rfl rfl rfl (by simp) (λk hk _=>a k hk) (λk h=>by simp_all) ?_;have c:Le G w (G.Uf p (some w.heap.size) (Ma+1) l.length (C,0)) (w.alloc (.cells cs T)):=by
  refine⟨λ_ h=>h,λk hk=>a k (hi.F k hk),Haa _,λi _=>?_⟩
  grind[Gh.Uf]
 have b:(w.alloc (.cells cs T)).heap[w.heap.size]?=some (.cells cs T (0,0)):=by
  show(w.heap.push (.cells cs T))[w.heap.size]?=_;simp
 refine⟨by simp[Gh.Uf],by grind[Gh.Uf],by simp[Gh.Uf],by grind[Gh.Uf],.inr ⟨w.heap.size,cs,T,by simp[Gh.Uf],λh=>?_,b,by grind[Gh.Uf],by simpa [Gh.Uf] using zk b (hr.mono c)⟩⟩;have:=hi.F _ h;omega
def bn(s:St) (p:Nat):I->Option (D×Ent)
 |.alloc S z=>match s.m[p]? with
  |some (.live S' Ma [])=>if S'=S then some (.ref p (Ma+1) 0 0,.live S (Ma+1) [z])else none
  |_=>none
 |.box S x=>match s.m[p]? with
  |some (.live S' Ma [])=>if S'=S/\(s.ev x).ok=true/\(s.ev x).cells.length=S then some (.ref p (Ma+1) 0 0,.live S (Ma+1) [s.ev x])else none
  |_=>none
 |.bslice S n z ps=>match s.m[p]? with
  |some (.live S' Ma [])=>if S'=S then(wc s S ps (oaa n z)).map λl=>(.own p (Ma+1),.live S (Ma+1) l)else none
  |_=>none
 |_=>none
section
variable {P:Program} {G:Gh} {w:World} {a:Act} {s:St} {d:D} {e:Ent} {p:Nat}
theorem CN{w':World}{C N:Nat}(hp:p<G.n):VRel (G.Uf p (some b) (Ma+1) N (C,0)) w' (.ref p (Ma+1) 0 0) (.pointer (some ⟨b,0,none⟩)):=by
 simp only[VRel];exact⟨_,rfl,by grind[Gh.Uf],by simp[Gh.Uf],λ_=>⟨b,by simp[Gh.Uf],by simp[Gh.Uf]⟩⟩
theorem V1{w':World}{C N:Nat}(hp:p<G.n):VRel (G.Uf p (some b) (Ma+1) N (C,0)) w' (.own p (Ma+1)) (.slice (some ⟨b,0,none⟩) N C):=by
 simp only[VRel];exact⟨_,_,_,rfl,by grind[Gh.Uf],by simp[Gh.Uf],λ_=>⟨by simp[Gh.Uf],by simp[Gh.Uf],by simp[Gh.Uf]⟩⟩
theorem q9(hr:Rel G w a s) (ho:o.op=.alloc t) (f:zeroOf P t=some z) (he:bn s p (.alloc z.cells.size (leaf z))=some (d,e)) :
 Good G w s.m ((execOp a.eval o).run P w) d (s.m.set p e):=by
 simp only[bn]at he;split at he
 .rename_i S' Ma hm;split at he
  .rename_i hS;subst hS;injection he with he;injection he with c h2;subst c;subst h2;obtain⟨hz1,b,hz3,-⟩:=Ml f w;obtain⟨g1,g2⟩:=DC hr.inv hm [leaf z] 1 z.cells t (Wy (Xv z b) rfl (MJ b)) (by simp) (by simp);refine⟨_,_,_,?_,.inl ⟨_,rfl,CN (C:=1) (N:=1) (by rw[hr.inv.n];grind)⟩,g1,g2⟩
   simp_all[execOp,Instr.alloc,newVar,newRow]
  simp_all
 simp_all
theorem f_box(hr:Rel G w a s) (ho:o.op=.box t x) (he:bn s p (.box S x)=some (d,e)) :
 Good G w s.m ((execOp a.eval o).run P w) d (s.m.set p e):=by
 simp only[bn]at he;split at he
 .rename_i S' Ma hm;split at he
  .rename_i hc;obtain⟨rfl,f,hlen⟩:=hc;injection he with he;injection he with b h2;subst b;subst h2;have hx:=hr.ev x;obtain⟨hv,b⟩:=hx.cells f;have g:(a.eval x).cells.size=S':=by rw[←xac,hv.length];omega
   obtain⟨g1,g2⟩:=DC hr.inv hm [s.ev x] 1 (a.eval x).cells t (Wy hx g (λj c hj=>b c (by grind))) (by simp) (by omega);refine⟨_,_,_,?_,.inl ⟨_,rfl,CN (C:=1) (N:=1) (by rw[hr.inv.n];grind)⟩,g1,g2⟩
   simp_all[execOp,Instr.box,newVar,newRow]
  simp_all
 simp_all
theorem vZ(hr:Rel G w a s) {e':TypeId}{ps:Array (Nat×Operand)}(ho:o.op=.buildSlice t n ps)
 (ht:P.underlying t=some (.slice e')) (y:zeroOf P e'=some z) (hsmall:n*z.cells.size<=2 ^ 24) (he:bn s p (.bslice z.cells.size n (leaf z) ps.toList)=some (d,e)) :
 Good G w s.m ((execOp a.eval o).run P w) d (s.m.set p e):=by
 simp only[bn]at he;split at he
 .rename_i S' Ma hm;split at he
  .rename_i hS;subst hS;simp only[paa,Naa]at he;obtain⟨l,hb,rfl,rfl⟩:=he;obtain⟨u,v,hz3,i,hi,c,hzz⟩:=Ml y w;obtain⟨cells,hf,g,hcs,b⟩:=zK hr hb (Js v n) (by simp);simp only[List.length_replicate]at b;obtain⟨g1,g2⟩:=DC hr.inv hm l n cells e' g (by omega) (by simp_all);refine⟨_,_,_,?_,.inl ⟨_,rfl,V1 (N:=l.length) (C:=n) (by rw[hr.inv.n];grind)⟩,g1,g2⟩;unfold execOp;simp only[ho];have q:¬(2 ^ 24<n*i.size):=by simp_all
   by_cases x:n*i.size=0
   .have j:n=0:=by
     grind[Nat.mul_eq_zero]
    subst j;rw[c.symm]at hf;rw[Nat.zero_mul,show Zad 0 = #[]from rfl,Array.map_empty]at hf;have h:Instr.fill (λk=>some (k*i.size,i.size)) #[] (ps.toList.map λp=>(p.1,a.eval p.2))=some cells:=hf;have r:∀f:Nat->Value,Array.map f (Zad 0) = #[]:=λf=>by simp
    simp[Instr.buildSlice,run_underlying ht,Pd hi,r,h,newRow,b]
   .rw[c.symm]at hf;simp[Instr.buildSlice,run_underlying ht,Pd hi,q,x,u,hf,newRow,b,c.symm]
  simp_all
 simp_all
theorem QQ{i:I}(hc:Oq P ops o o.op=some i) (hr:Rel G w a s) (he:bn s p i=some (d,e)):Good G w s.m ((execOp a.eval o).run P w) d (s.m.set p e):=by
 cases i with
 |alloc S z=>
  obtain⟨t,b,ho,f,rfl,rfl⟩:∃t b,o.op=.alloc t/\zeroOf P t=some b/\b.cells.size=S/\leaf b=z:=by
   unfold Oq at hc;split at hc
   .grind[az,paa]
   .unfold oD at hc
    repeat' split at hc
    all_goals first
     |cases hc
     |(
      simp only[paa]at hc;obtain⟨b,f,h⟩:=hc
      first|cases h|skip)
    simp_all
  grind[q9]
 |box S x=>
  obtain⟨t,ho⟩:∃t,o.op=.box t x:=by
   unfold Oq at hc;split at hc
   .grind[az,paa]
   .unfold oD at hc
    grind[paa]
  grind[f_box]
 |bslice S n z ps=>
  obtain⟨t,e',c,b,ho,ht,f,hsmall,rfl,rfl,rfl⟩:∃t e' c b,o.op=.buildSlice t n c/\P.underlying t=some (.slice e')/\zeroOf P e'=some b/\n*b.cells.size<=2 ^ 24/\b.cells.size=S/\leaf b=z/\c.toList=ps:=by
   unfold Oq at hc;split at hc
   .grind[az,paa]
   .unfold oD at hc
    repeat' split at hc
    all_goals first
     |(cases hc;exact⟨_,_,_,_,by omega,by omega,by omega,by omega,rfl,rfl,rfl⟩)
     |cases hc
     |(
      simp only[paa]at hc;obtain⟨b,f,h⟩:=hc;cases h)
  grind[vZ]
 |_=>simp[bn]at he
end
theorem EM{i:I}(ht:∀t∈i.reads,s'.t.getD t .dead=s.t.getD t .dead) (hm:s'.m[p]?=s.m[p]?):bn s' p i=bn s p i:=by
 cases i with
 |alloc S z=>grind[bn]
 |box S x=>
  grind[I.reads,bn,wa]
 |bslice S n z ps=>
  grind[I.reads,bn,xr]
 |_=>rfl
theorem DM{i:I}(h:bn s p i=some (d,e)):p<s.m.length:=by
 rcases dac p s.m.length with a|a
 .omega
 .have hn:=List.getElem?_eq_none a;cases i<;>simp[bn,hn]at h
def Ay:Option Nat->St->RI->List Nat
 |some p,_,.op ..=>[p]
 |some _,s,.call _ _ _ args=>Fb s args
 |none,s,r=>zm s r
def Hm(P:Program) (o:Option Nat) (r:RI) (s:St) (d:D) (x:List Ent) (w:Option (Nat×Ent)):Prop:=
 match o with
 |none=>Cv P r s d x w
 |some p=>(∃dst i e,r=.op dst none i/\x=[]/\w=some (p,e)/\bn s p i=some (d,e))\/
  (∃dst f args k first caps e,r=.call dst none f args/\x=[]/\w=some (p,e)/\s.cv f=.fn k first caps/\p∈Fb s args/\(∀id∈Fb s args,id<s.m.length)/\
   ∀m,(∀id∈Fb s args,m[id]?=s.m[id]?)->CallT P k (first++args.map s.ev++caps) m λd' m'=>d'=d/\m'=m.set p e)
def pO(pl:List (Option Nat)) (i:Nat):Option Nat:=pl.getD i none
theorem SS{pl:List (Option Nat)}:(pl.drop k).headD none=pO pl k:=by
 simp_all[pO]
theorem tail_drop{pl:List (Option Nat)}:(pl.drop k).tail=pl.drop (k+1):=by simp
theorem mS_le{xx:Nat->List Ent}{L:Nat->Bool}(m:List Ent):∀n,m.length<=(mS xx L m n).length
 |0=>Haa _
 |n+1=>by
  have:=mS_le (xx:=xx) (L:=L) m n
  grind[mS]
def Fx(P:Program):List (Option Nat)->List RI->St->Os->List (List Nat)->St->Prop
 |_,[],s,os,rs,s'=>os=[]/\rs=[]/\s'=s
 |pl,r::l,s,os,rs,s'=>∃d x w os' a,os=(d,x,w)::os'/\rs=Ay (pl.headD none) s r::a/\Hm P (pl.headD none) r s d x w/\Fx P pl.tail l (Pk s r d x w) os' a s'
section
variable {P:Program}
theorem Fx.length:∀{l:List RI}{pl:List (Option Nat)}{s s':St}{os:Os}{rs:List (List Nat)},Fx P pl l s os rs s'->os.length=l.length
 |[],pl,s,s',os,rs,h=>by simp[h.1]
 |r::l,pl,s,s',os,rs,h=>by
  obtain⟨d,x,w,os',rs',rfl,rfl,_,h⟩:=h;simp[Fx.length h]
theorem Hm.lt{o:Option Nat}{r:RI}{s:St}{d:D}{x:List Ent}{w:Option (Nat×Ent)}(h:Hm P o r s d x w) {id:Nat}{e:Ent}(hw:w=some (id,e)):id<s.m.length/\x=[]/\id∈Ay o s r:=by
 cases o with
 |none=>exact Cv.lt h hw
 |some p=>
  rcases h with⟨dst,i,e',rfl,hx,a,hf⟩|⟨dst,f,args,k,first,caps,e',rfl,hx,a,hf,c,hl,_⟩
  .rw[a]at hw;injection hw with hw;injection hw with b h2;subst b;exact⟨DM hf,hx,by simp[Ay]⟩
  .rw[a]at hw;injection hw with hw;injection hw with b h2;subst b;exact⟨hl _ c,hx,c⟩
theorem Fx.get{pl:List (Option Nat)}{rl:List RI}{os:Os}{s0:St}:∀{l:List RI}{k:Nat}{s':St}{os':Os}{rs:List (List Nat)},l=(rl.drop k).take l.length->os'=(os.drop k).take os'.length->
 (∀j,j<k->∀id e,KT os j=some (id,e)->id<(mS (LH os) (λ_=>true) s0.m k).length)->Fx P (pl.drop k) l (tn rl os s0 (λ_=>true) k) os' rs s'->
 (∀i,i<l.length->Hm P (pO pl (k+i)) (rl.getD (k+i) fT) (tn rl os s0 (λ_=>true) (k+i)) (ddC os (k+i)) (LH os (k+i)) (KT os (k+i))/\rs.getD i []=Ay (pO pl (k+i)) (tn rl os s0 (λ_=>true) (k+i)) (rl.getD (k+i) fT))/\s'=tn rl os s0 (λ_=>true) (k+l.length)
 |[],k,s',os',rs,_,_,_,h=>⟨λi hi=>by grind,by simpa using h.2.2⟩
 |r::l,k,s',os',rs,q,h2,hv,h=>by
  obtain⟨d,x,w,a,rs',rfl,rfl,n,h⟩:=h;rw[SS]at n;rw[tail_drop]at h;have hr:rl[k]?=some r:=by
   have:=congrArg (λl=>l[0]?) q
   grind
  have ho:os[k]?=some (d,x,w):=by
   have:=congrArg (λl=>l[0]?) h2
   grind
  have g:rl.getD k fT=r:=by simp_all
  have ho':os.getD k os0=(d,x,w):=by simp_all
  have hd:ddC os k=d:=by grind[ddC]
  have hx:LH os k=x:=by grind[LH]
  have hw:KT os k=w:=by grind[KT]
  have hds:KU rl k=r.dst:=by grind[KU]
  have c:mS (LH os) (λ_=>true) s0.m (k+1)=mS (LH os) (λ_=>true) s0.m k++x:=by grind[mS]
  have b:Pk (tn rl os s0 (λ_=>true) k) r d x w=tn rl os s0 (λ_=>true) (k+1):=by
   rw[iF];simp only[tn,tS,if_true,St.mk.injEq];refine⟨by grind,?_⟩;rw[c];simp only[sS,if_true,hw];rw[IQ _ _ _ λj hj _ id e he=>hv j hj id e he]
   cases w with
   |none=>rfl
   |some p=>
    obtain⟨id,e⟩:=p;obtain⟨_,hx0,_⟩:=n.lt rfl
    grind[wr]
  have o:∀j,j<k+1->∀id e,KT os j=some (id,e)->id<(mS (LH os) (λ_=>true) s0.m (k+1)).length:=by
   intro j hj id e he;rw[c,Faa];by_cases f:j=k
   .subst f;rw[hw]at he;have:=(n.lt he).1
    grind[tn,fo]
   .have:=hv j (by omega) id e he;omega
  rw[b]at h;have t1:l=(rl.drop (k+1)).take l.length:=by
   grind[mab]
  have t2:a=(os.drop (k+1)).take a.length:=by
   grind[mab]
  obtain⟨g1,g2⟩:=Fx.get t1 t2 o h;refine⟨λi hi=>?_,by grind⟩
  cases i with
  |zero=>simp only[Nat.add_zero,g,hd,hx,hw];grind[SS]
  |succ i=>
   have:=g1 i (by grind)
   grind
theorem E9(hc:wo P ops o=some r) {x:List Ent}{O:Option (Nat×Ent)}{N:Option Nat}(hf:Hm P N r sc d x O) (ht:∀t∈r.reads,s.t.getD t .dead=sc.t.getD t .dead)
 (hm:N=none->r.cls=2->s.m.length=sc.m.length) (J:∀(id:Nat),id∈Ay N sc r->(∃e,sc.m[id]?=some e)->id<s.m.length->s.m[id]?=sc.m[id]?) (B:∀p,N=some p->p<s.m.length)
 {G:Gh} {w:World} (hr:Rel G w a s) (hi:ops[i]?=some o) {Q:Exit->Act->World->Prop} {K:Act->World->Prop}
 (S:∀G' w' a',Rel G' w' a' (Pk s r d x O)->Step G w s.m G' w' (wr s.m O++x)->(∀id e,O=some (id,e)->id<s.m.length)->K a' w'):wpOp P ops Q i K a w:=by
 cases N with
 |none=>exact D9 hc hf ht (hm rfl) J hr hi S
 |some p=>
  rcases hf with⟨dst,j,e,rfl,rfl,rfl,E⟩|⟨dst,f,args,k,first,caps,e,rfl,rfl,rfl,hfe,hpt,I,C⟩
  rotate_left
  .have A:=qw hc;have hp:=B p rfl;unfold wpOp;simp only[hi];unfold wo at hc;split at hc
   .grind
   .rename_i g T;split at hc
    .rename_i Y args' ho;injection hc with hc;injection hc with Z h2 R h4;subst h2;subst R;subst h4;obtain⟨b,y⟩:=cn hr T;rw[if_pos (b rfl o rfl)];refine .inl ?_;have H:s.cv Y=.fn k first caps:=by grind[RI.reads,BF]
     have c:args'.map s.ev=args'.map sc.ev:=map_congr (λt h=>ht t (by grind[RI.reads]));obtain⟨⟨fn,e1,e2,e3⟩,F⟩:=C s.m λid z=>by
      refine J id z ⟨_,naa (I id z)⟩ ?_;rw[cD,←c]at z;rw[←hr.inv.n];exact bu (Hy hr _) z
     obtain⟨fs,cs,L,V,W⟩:=By hr ho (KY H) e1 e2 e3;rw[←c]at F;have l:=F G w (fs++args'.map a.eval++cs) ((V.append (Hy hr _)).append W) hr.inv;unfold Oper.wp;rw[L,Oper.upon_enter];refine l.mono ?_;rintro e0 w' ⟨v,d',m',G',rfl,⟨rfl,rfl⟩,X,U,M⟩;refine S G' w' _ ?_ (by grind[wr]) (λid e' h=>by simp_all);unfold Pk;rw[Taa];rw[A];exact(hr.step M.le U).put o.dst X
    simp_all
  have A:=qw hc;have hp:=B p rfl;have hat:=DM E;have q:bn s p j=some (d,e):=by
   grind[RI.reads,Ay,EM]
  unfold wpOp;simp only[hi];unfold wo at hc;split at hc
  .grind
  .rename_i g T;split at hc
   .simp_all
   .rename_i hno;simp only[paa]at hc;obtain⟨j',hj,h⟩:=hc;injection h with Z h2 R;subst h2;subst R;obtain⟨b,y⟩:=cn hr T;rw[if_pos (b rfl o rfl)];refine .inl ?_;exact hr.cr (QQ hj hr q) λG' w' u hr' M=>S G' w' _ (by grind[Pk,wr]) (by grind[wr]) (λid e' h=>by simp_all)
end
def wB(o:Option Nat):RI->Bool
 |.op _ _ i=>o.isSome || i.LW.isSome
 |.call ..=>o.isSome
def lB(o:Option Nat):RI->Bool
 |.op _ _ i=>o.isSome || i.LW.isSome || i.at?.isSome
 |.call ..=>true
def Iv(o a:Option Nat) (x y:RI):Bool:=(wB o x&&lB a y) || (wB a y&&lB o x)
def iv(o a:Option Nat) (x y:RI):Bool:=
 (
  match x.dst with
  |some t=>y.reads.contains t || y.dst==some t
  |none=>false) ||
 (
  match y.dst with
  |some t=>x.reads.contains t
  |none=>false) ||
 (o.isNone&&a.isNone&&x.cls==2&&y.cls==2)
def Nu(bs:List (List Nat)) (rl:List RI) (q:Nat) (ps:List (List Nat)) (pl:List (Option Nat)):Bool:=
 let ms:=Zw bs
 (xaa q).all λj=>match rl[j]? with
  |none=>false
  |some y=>((pO pl j).isSome || y.mE)&&(xaa j).all λi=>match rl[i]? with
   |none=>false
   |some x=>(ms.getD j 0).testBit i || (!iv (pO pl i) (pO pl j) x y&&(!Iv (pO pl i) (pO pl j) x y || (ps.getD j []).contains i))
structure DrawFactsO (bs:List (List Nat)) (rl:List RI) (q:Nat) (ps:List (List Nat)) (pl:List (Option Nat)):Prop extends TailFacts bs rl q where
 mE:∀(j:Nat) y,j<q->rl[j]?=some y->((pO pl j).isSome || y.mE)=true
 apart:∀(i j:Nat) x y,i<j->j<q->rl[i]?=some x->rl[j]?=some y->iv (pO pl i) (pO pl j) x y=true->((Zw bs).getD j 0).testBit i=true
 pairs:∀(i j:Nat) x y,i<j->j<q->rl[i]?=some x->rl[j]?=some y->Iv (pO pl i) (pO pl j) x y=true->((Zw bs).getD j 0).testBit i=true\/i∈ps.getD j []
variable {pl:List (Option Nat)}
theorem RH{bs:List (List Nat)}{rl:List RI}{q:Nat}{ps:List (List Nat)}(ht:TailFacts bs rl q) (h:Nu bs rl q ps pl=true):DrawFactsO bs rl q ps pl:=by
 unfold Nu at h;simp only[Xaa,Eac]at h;refine⟨ht,?_,?_,?_⟩
 all_goals grind
section
variable {P:Program} {ops:Array Oper} {Q:Exit->Act->World->Prop} {K:St->Prop} {rl:List RI} {q:Nat} {ps:List (List Nat)} {pl:List (Option Nat)}
theorem uJ{o a:Option Nat}{x y:RI}(hx:id∈Ay o s x) (hy:wB a y=true):Iv o a x y=true:=by
 have h:lB o x=true:=by
  cases o with
  |some p=>cases x<;>simp[lB]
  |none=>
   cases x with
   |call=>rfl
   |op d g i=>
    grind[Ay,zm,lB]
 grind[Iv]
theorem pP{o a:Option Nat}{x y:RI}:Iv o a x y=Iv a o y x:=by grind[Iv]
theorem Hm.wB{o:Option Nat}{r:RI}{s:St}{d:D}{x:List Ent}{p:Nat×Ent}(h:Hm P o r s d x (some p)):Go.Tm.wB o r=true:=by
 cases o with
 |some p=>cases r<;>rfl
 |none=>
  cases r with
  |call=>obtain⟨_,h,_⟩:=h;cases h
  |op d g i=>
   rcases h with⟨_,⟨h,_⟩|⟨_,a,_,_,h,_⟩⟩|⟨_,_,_,h⟩
   all_goals grind[Go.Tm.wB]
theorem vP(hc:Hg P ops ops.toList=some rl) (hf:DrawFactsO (ub ops) rl q ps pl) {os:Os}
 (I:∀i,i<q->Hm P (pO pl i) (rl.getD i fT) (tn rl os s0 (λ_=>true) i) (ddC os i) (LH os i) (KT os i))
 (hpl:∀i p,pO pl i=some p->p<s0.m.length)
 (B:∀i,i<q->LH os i≠[]->(rl.getD i fT).cls=2/\pO pl i=none)
 (hap:∀i j,i<j->j<q->i∈ps.getD j []->∀id,id∈Ay (pO pl i) (tn rl os s0 (λ_=>true) i) (rl.getD i fT)->id∉Ay (pO pl j) (tn rl os s0 (λ_=>true) j) (rl.getD j fT))
 (hT:wj P (rl.drop q) K (tn rl os s0 (λ_=>true) q)) :
 ∀(fuel:Nat) (listed:Array Bool) (G:Gh) (w:World) (a:Act),((xaa ops.size).filter λj=>!Hd listed j).length<=fuel->listed.size=ops.size->Closed (ub ops) (Hd listed)->
  (∀j,q<=j->Hd listed j=false)->Rel G w a (tn rl os s0 (Hd listed) q)->(∀j,j<q->Hd listed j=true->∀id e,KT os j=some (id,e)->id<(mS (LH os) (Hd listed) s0.m q).length)->
  (∀s' G' w' a',K s'->Rel G' w' a' s'->Step G w (tn rl os s0 (Hd listed) q).m G' w' s'.m->Q .normal a' w')->wpAny P .any ops Q fuel listed a w:=by
 obtain⟨Y,W⟩:=Ku hc;simp only[xac]at Y;have hq:=hf.hq;have d:∀{L L':Nat->Bool},(∀j,j<q->L j=L' j)->tn rl os s0 L q=tn rl os s0 L' q:=by
  intro L L' h;have hs:∀(m:List Ent) n,n<=q->sS (KT os) L m n=sS (KT os) L' m n:=by
   intro m n
   induction n with
   |zero=>intro _;rfl
   |succ n ih=>grind[sS]
  simp only[tn,St.mk.injEq];exact⟨lH _ _ λj hj=>h j hj,by rw[uG _ _ λj hj=>h j hj,hs _ _ (Haa _)]⟩
 intro fuel
 induction fuel with
 |zero=>
  intro listed G w a o F H T J hV hQ;have V:∀i,i<ops.size->Hd listed i=true:=by
   simp_all
  have hqn:q=ops.size:=by
   rcases dac q ops.size with h|h
   all_goals grind
  have E:tn rl os s0 (Hd listed) q=tn rl os s0 (λ_=>true) q:=d λj hj=>V j (by omega);refine My hc hf.toTailFacts 0 q 0 listed _ G w a (by omega) (Haa _) (Haa _) (by omega) F (λi=>?_) hT (by simp_all) (by grind)
  grind
 |succ fuel ih=>
  intro listed G w a o F H T J hV hQ;by_cases b:∀j,j<q->Hd listed j=true
  .have E:tn rl os s0 (Hd listed) q=tn rl os s0 (λ_=>true) q:=d λj hj=>b j hj;have g:∀i,Hd listed i=decide (i<q):=λi=>by
    grind
   have hcnt:=count_tail q ops.size;simp only[g]at o;exact My hc hf.toTailFacts (ops.size-q) q (fuel+1) listed _ G w a rfl (by omega) (Haa _) (by omega) F g hT (by simp_all) (by grind)
  .refine⟨λhno=>(b λj hj=>ky hf.toTailFacts F hno j (by omega)).elim,λi hi=>?_⟩;obtain⟨h1,h2,h3,h4,U⟩:=Vu hf.toTailFacts F H hi;have c:i<q:=by
    rcases dac i q with h|h
    .exact h
    .exact(b λj hj=>h3 j (by omega) (hf.tail j i (by omega) h (by omega))).elim
   have z:∀j,j<q->rl[j]?=some (rl.getD j fT):=λj hj=>getD_some (by omega) _;obtain⟨r,hr,hco⟩:=W i ops[i] (by simp);have hrr:rl.getD i fT=r:=by grind
   have early:∀j x,j<i->rl[j]?=some x->iv (pO pl j) (pO pl i) x r=true->Hd listed j=true:=λj x hj hx u=>h3 j (by omega) (hf.apart j i x r hj c hx hr u);have late:∀j y,i<j->j<q->rl[j]?=some y->iv (pO pl i) (pO pl j) r y=true->Hd listed j=false:=by
    intro j y hj R hy u;rcases hb:Hd listed j with _|_
    .rfl
    .have:=Ut H hb (hf.apart i j r y hj R hr hy u)
     grind
   have hF:=I i c;rw[hrr]at hF;have v:∀(k l:Nat) (x y:RI),(x.cls=2/\pO pl k=none)->(y.cls=2/\pO pl l=none)->iv (pO pl k) (pO pl l) x y=true:=λk l x y hx hy=>by grind[iv]
   have ordered:∀j,j<q->∀id e,KT os j=some (id,e)->id∈Ay (pO pl i) (tn rl os s0 (λ_=>true) i) r->(Hd listed j=true↔j<i):=by
    intro j hj id e hw D;have M:=I j hj;have S:=M.lt hw;have E:Go.Tm.wB (pO pl j) (rl.getD j fT)=true:=by rw[hw]at M;exact M.wB
    rcases Nat.lt_trichotomy j i with A|A|A
    .refine⟨λ_=>A,λ_=>?_⟩;have N:Iv (pO pl j) (pO pl i) (rl.getD j fT) r=true:=by grind[pP,uJ]
     rcases hf.pairs j i _ r A c (z j hj) hr N with h|h
     all_goals grind
    .grind
    .refine⟨λg=>?_,λh=>by omega⟩;have N:Iv (pO pl i) (pO pl j) r (rl.getD j fT)=true:=uJ D E;rcases hf.pairs i j r _ A hj hr (z j hj) N with h|h
     all_goals grind[Ut]
   refine E9 hco hF (s:=tn rl os s0 (Hd listed) q) ?_ ?_ ?_ ?_ J (Tab h1) ?_
   .intro y hy;refine VN s0.t (by omega) λj hj hd=>?_;have hxj:=z j hj
    grind[KU,iv]
   .intro hpo hcls;simp only[tn,fo];refine congrArg List.length (YM s0.m (Nat.le_of_lt c) λj hj hx=>?_)
    grind
   .rintro id D ⟨e,he⟩ O;obtain⟨k,hk,Z⟩:=JC (xx:=LH os) (L:=Hd listed) s0.m q λi1 j1 X hj hx1 hx2 hL1=>
     Ut H hL1 (hf.apart i1 j1 _ _ X hj (z i1 (by omega)) (z j1 hj) (v _ _ _ _ (B i1 (by omega) hx1) (B j1 hj hx2)))
    simp only[tn,fo]at he O⊢;have S:id<(mS (LH os) (λ_=>true) s0.m i).length:=by
     grind[fo]
    rw[dH _ _ _ O,dH _ _ _ S,ZP (by omega) λj hj e hw=>ordered j hj id e hw D];have hbase:(mS (LH os) (Hd listed) s0.m q)[id]?=(mS (LH os) (λ_=>true) s0.m i)[id]?:=by
     rw[Z]at O⊢;rcases faf i k with h|h
     .obtain⟨rr,hrr'⟩:=HE (xx:=LH os) s0.m h
      grind
     .obtain⟨rr,hrr'⟩:=HE (xx:=LH os) s0.m h
      grind
    grind
   .grind[tn,fo,mS_le]
   .intro G' w' a' C hs' S;have f:mS (LH os) (Hd (listed.setIfInBounds i true)) s0.m q=mS (LH os) (Hd listed) s0.m q++LH os i:=by
     refine DS s0.m h2 U c ?_
     grind
    have E:Pk (tn rl os s0 (Hd listed) q) r (ddC os i) (LH os i) (KT os i)=tn rl os s0 (Hd (listed.setIfInBounds i true)) q:=by
     rw[iF];simp only[tn,St.mk.injEq];constructor
     .rw[rT s0.t h2 U c ?_]
      all_goals grind[KU,iv]
     .rw[f,sS_step _ h2 U c ?_]
      .rw[IQ _ _ _ λj hj g id e he=>hV j hj g id e he]
       cases hw:KT os i with
       |none=>rfl
       |some p=>
        obtain⟨id,e⟩:=p;have:=(hF.lt hw).2.1
        grind[wr]
      .intro j X R g id e e' hwi hwj;have:=(ordered j R id e' hwj (hF.lt hwi).2.2).1 g;omega
    rw[E]at C;refine ih (listed.setIfInBounds i true) G' w' a' ?_ (by grind) h4 ?_ C ?_ ?_
    .have:=filter_lt h2 U (l:=xaa ops.size) (by grind);omega
    .grind
    .intro j hj g id e he;rw[f,Faa];rw[U,Had,beq_iff_eq]at g;rcases g with g|rfl
     all_goals grind[tn,fo]
    .intro s'' G'' w'' a'' k1 k2 k3;refine hQ s'' G'' w'' a'' k1 k2 (hs'.trans ?_)
     grind[iF]
end
def Dn(P:Program):List (Option Nat)->List (List Nat)->List (List Nat)->Nat->List RI->(St->Prop)->St->Prop
 |_,_,_,0,l,K,s=>wj P l K s
 |_,_,_,_+1,[],_,_=>False
 |pl,ps,fp,q+1,.op dst g i::l,K,s=>
  match pl.headD none with
  |some p=>rA fp [p] (ps.headD [])=true/\g=none/\∃d e,bn s p i=some (d,e)/\Dn P pl.tail ps.tail (fp++[[p]]) q l K ({ s with m:=s.m.set p e }.put dst d)
  |none=>
   rA fp (zm s (.op dst g i)) (ps.headD [])=true/\
   match gate s g with
   |none=>False
   |some none=>∃d m',ag s i=true/\da s i=some (d,m')/\Dn P pl.tail ps.tail (fp++[zm s (.op dst g i)]) q l K ({ s with m:=m' }.put dst d)
   |some (some (c,b))=>(c=b->∃d m',ag s i=true/\da s i=some (d,m')/\Dn P pl.tail ps.tail (fp++[zm s (.op dst g i)]) q l K ({ s with m:=m' }.put dst d))/\(c≠b->Dn P pl.tail ps.tail (fp++[zm s (.op dst g i)]) q l K (s.put dst (.v undef)))
 |pl,ps,fp,q+1,.call dst g f args::l,K,s=>
  match pl.headD none,s.cv f with
  |some p,.fn k first caps=>g=none/\p∈Fb s args/\rA fp (Fb s args) (ps.headD [])=true/\∃d e,((∀id∈Fb s args,id<s.m.length)/\∀m,(∀id∈Fb s args,m[id]?=s.m[id]?)->CallT P k (first++args.map s.ev++caps) m λd' m'=>d'=d/\m'=m.set p e)/\Dn P pl.tail ps.tail (fp++[Fb s args]) q l K ({ s with m:=s.m.set p e }.put dst d)
  |none,.fn k first caps=>
   match gate s g with
   |none=>False
   |some none=>rA fp (Fb s args) (ps.headD [])=true/\∃d,((∀id∈Fb s args,id<s.m.length)/\∀m,(∀id∈Fb s args,m[id]?=s.m[id]?)->CallT P k (first++args.map s.ev++caps) m λd' m'=>d'=d/\m'=m)/\Dn P pl.tail ps.tail (fp++[Fb s args]) q l K (s.put dst d)
   |some (some (c,b))=>rA fp (Fb s args) (ps.headD [])=true/\(c=b->∃d,((∀id∈Fb s args,id<s.m.length)/\∀m,(∀id∈Fb s args,m[id]?=s.m[id]?)->CallT P k (first++args.map s.ev++caps) m λd' m'=>d'=d/\m'=m)/\Dn P pl.tail ps.tail (fp++[Fb s args]) q l K (s.put dst d))/\(c≠b->Dn P pl.tail ps.tail (fp++[Fb s args]) q l K (s.put dst (.v undef)))
  |none,_=>rA fp (Fb s args) (ps.headD [])=true/\(∃c b,gate s g=some (some (c,b))/\c≠b)/\Dn P pl.tail ps.tail (fp++[Fb s args]) q l K (s.put dst (.v undef))
  |_,_=>False
section
variable {P:Program} {K:St->Prop}
theorem TS:pO pl.tail j=pO pl (j+1):=by grind[pO]
theorem JA:∀{q:Nat}{l:List RI}{s:St}{pl:List (Option Nat)}{ps:List (List Nat)}{fp:List (List Nat)},Dn P pl ps fp q l K s->(∀(j:Nat) y,j<q->l[j]?=some y->((pO pl j).isSome || y.mE)=true)->
 ∃os rs s1,Fx P pl (l.take q) s os rs s1/\wj P (l.drop q) K s1/\(∀j,j<q->∀i∈ps.getD j [],i<fp.length+j->Qp ((fp++rs).getD i []) (rs.getD j [])=true)
 |0,l,s,pl,ps,fp,h,_=>⟨[],[],s,by simp[Fx],by simpa [Dn] using h,λj hj=>by omega⟩
 |q+1,[],s,pl,ps,fp,h,_=>by simp[Dn]at h
 |q+1,.op dst g i::l,s,pl,ps,fp,h,hc=>by
  have A:∀(j:Nat) y,j<q->l[j]?=some y->((pO pl.tail j).isSome || y.mE)=true:=λj y hj O=>by grind[TS]
  simp only[Dn]at h;have join:∀{s2:St} {d x w},rA fp (Ay (pl.headD none) s (.op dst g i)) (ps.headD [])=true->Hm P (pl.headD none) (.op dst g i) s d x w->Pk s (.op dst g i) d x w=s2->Dn P pl.tail ps.tail (fp++[Ay (pl.headD none) s (.op dst g i)]) q l K s2->
   ∃os rs s1,Fx P pl ((RI.op dst g i::l).take (q+1)) s os rs s1/\wj P ((RI.op dst g i::l).drop (q+1)) K s1/\(∀j,j<q+1->∀i∈ps.getD j [],i<fp.length+j->Qp ((fp++rs).getD i []) (rs.getD j [])=true):=by
   intro s2 d x w n N hs r;obtain⟨os,rs,s1,H,h2,I⟩:=JA r A;refine⟨(d,x,w)::os,Ay (pl.headD none) s (.op dst g i)::rs,s1,by simp only[yab,Fx];grind,by simp_all,λj hj k hk G=>?_⟩
   cases j with
   |zero=>
    have E:k∈ps.headD []:=by cases ps with|nil=>simp at hk|cons a b=>simp_all
    have F:k<fp.length:=by omega
    have B:(fp++Ay (pl.headD none) s (.op dst g i)::rs).getD k []=fp.getD k []:=by
     grind
    grind[uE]
   |succ j=>
    grind[nab]
  split at h
  .rename_i p z;obtain⟨n,rfl,d,e,hf,r⟩:=h;exact join (d:=d) (x:=[]) (w:=some (p,e)) (by rw[z];exact n) (by rw[z];exact .inl ⟨dst,i,e,rfl,rfl,rfl,hf⟩) (show Pk s (.op dst none i) d [] (some (p,e))=({ s with m:=s.m.set p e }:St).put dst d by grind[Pk,wr,RI.dst]) (by rw[z];exact r)
  .rename_i z;have J:(RI.op dst g i).mE=true:=by
    have:=hc 0 _ (by omega) rfl;have h0:pO pl 0=none:=by rw[←z];cases pl<;>rfl
    simp_all
   simp only[z,Ay,Hm]at join;obtain⟨n,h⟩:=h;have on:∀{d:D} {m':List Ent},ag s i=true->da s i=some (d,m')->(gate s g=some none\/∃c,gate s g=some (some (c,c)))->Dn P pl.tail ps.tail (fp++[zm s (.op dst g i)]) q l K ({ s with m:=m' }.put dst d)->
    ∃os rs s1,Fx P pl ((RI.op dst g i::l).take (q+1)) s os rs s1/\wj P ((RI.op dst g i::l).drop (q+1)) K s1/\(∀j,j<q+1->∀i∈ps.getD j [],i<fp.length+j->Qp ((fp++rs).getD i []) (rs.getD j [])=true):=by
    intro d m' C he u r;simp only[RI.mE,Had,decide_eq_true_eq]at J;by_cases L:i.cls<=2
    .have ext:∃x,m'=s.m++x:=by
      rcases dac i.cls 2 with h2|h2
      .exact⟨[],by rw[Taa];exact(Ap (s:=s) (s':=s) (by omega) (λ_ _=>rfl) (λ_ _ _ _=>rfl) he).1⟩
      .obtain⟨e,h,_⟩:=xD (s:=s) (s':=s) (by omega) (λ_ _=>rfl) rfl he
       simp_all
     obtain⟨x,rfl⟩:=ext;exact join n (x:=x) (w:=none) (.inl ⟨u,.inl ⟨rfl,L,he⟩⟩) rfl r
    .have ht:i.LW.isSome=true:=by simp_all
     obtain⟨a,ha⟩:=Option.isSome_iff_exists.1 ht;obtain⟨id,e,H,rfl,I,h4⟩:=SI ha C he;refine join n (x:=[]) (w:=some (id,e)) (.inl ⟨u,.inr ⟨rfl,a,id,e,ha,H,rfl,he,?_,C⟩⟩) ?_ r
     all_goals grind[Pk,wr,RI.dst]
   have off:(∃c b,gate s g=some (some (c,b))/\c≠b)->Dn P pl.tail ps.tail (fp++[zm s (.op dst g i)]) q l K (s.put dst (.v undef))->
    ∃os rs s1,Fx P pl ((RI.op dst g i::l).take (q+1)) s os rs s1/\wj P ((RI.op dst g i::l).drop (q+1)) K s1/\(∀j,j<q+1->∀i∈ps.getD j [],i<fp.length+j->Qp ((fp++rs).getD i []) (rs.getD j [])=true):=λu r=>
    join n (d:=.v undef) (x:=[]) (w:=none) (.inr ⟨u,rfl,rfl,rfl⟩) (by simp_all[Pk,wr,RI.dst]) r
   split at h
   .simp_all
   .grind
   .rename_i c b u;by_cases t:c=b
    .subst t;obtain⟨d,m',C,he,r⟩:=h.1 rfl
     simp_all
    .exact off ⟨c,b,u,t⟩ (h.2 t)
 |q+1,.call dst g f args::l,s,pl,ps,fp,h,hc=>by
  have A:∀(j:Nat) y,j<q->l[j]?=some y->((pO pl.tail j).isSome || y.mE)=true:=λj y hj O=>by grind[TS]
  rcases z:pl.headD none with _|p
  rotate_left
  .simp only[Dn]at h
   cases hf:s.cv f with
   |fn k first caps=>
    simp only[z,hf]at h;obtain⟨rfl,M,n,d,e,o,r⟩:=h;obtain⟨os,rs,s1,H,h2,I⟩:=JA r A;refine⟨(d,[],some (p,e))::os,Fb s args::rs,s1,?_,by simp_all,λj hj k hk G=>?_⟩
    .simp only[yab,Fx,z];refine⟨d,[],some (p,e),os,rs,rfl,rfl,.inr ⟨dst,f,args,k,first,caps,e,rfl,rfl,rfl,hf,M,o.1,o.2⟩,?_⟩
     grind[Pk,wr,RI.dst]
    .cases j with
     |zero=>
      have E:k∈ps.headD []:=by cases ps with|nil=>simp at hk|cons a b=>simp_all
      have F:k<fp.length:=by omega
      have B:(fp++Fb s args::rs).getD k []=fp.getD k []:=by
       grind
      grind[uE]
     |succ j=>
      grind[nab]
   |_=>simp only[z,hf]at h
  have haf:∀d,Pk s (.call dst g f args) d [] none=s.put dst d:=λd=>by simp_all[Pk,wr,RI.dst]
  have join:∀{d},rA fp (Fb s args) (ps.headD [])=true->Cv P (.call dst g f args) s d [] none->Dn P pl.tail ps.tail (fp++[Fb s args]) q l K (s.put dst d)->
   ∃os rs s1,Fx P pl ((RI.call dst g f args::l).take (q+1)) s os rs s1/\wj P ((RI.call dst g f args::l).drop (q+1)) K s1/\(∀j,j<q+1->∀i∈ps.getD j [],i<fp.length+j->Qp ((fp++rs).getD i []) (rs.getD j [])=true):=by
   intro d n N r;obtain⟨os,rs,s1,H,h2,I⟩:=JA r A;refine⟨(d,[],none)::os,Fb s args::rs,s1,by simp only[yab,Fx,z,Ay,zm,Hm];grind,by simp_all,λj hj k hk G=>?_⟩
   cases j with
   |zero=>
    have E:k∈ps.headD []:=by cases ps with|nil=>simp at hk|cons a b=>simp_all
    have F:k<fp.length:=by omega
    have B:(fp++Fb s args::rs).getD k []=fp.getD k []:=by
     grind
    grind[uE]
   |succ j=>
    grind[nab]
  simp only[Dn]at h
  cases hf:s.cv f with
  |fn k first caps=>
   simp only[z,hf]at h;split at h
   .simp_all
   .rename_i u;obtain⟨n,d,o,r⟩:=h;exact join n ⟨rfl,rfl,.inl ⟨k,first,caps,hf,.inl u,o⟩⟩ r
   .rename_i c b u;obtain⟨n,h⟩:=h;by_cases t:c=b
    .subst t;obtain⟨d,o,r⟩:=h.1 rfl;exact join n ⟨rfl,rfl,.inl ⟨k,first,caps,hf,.inr ⟨c,u⟩,o⟩⟩ r
    .exact join n ⟨rfl,rfl,.inr ⟨⟨c,b,u,t⟩,rfl⟩⟩ (h.2 t)
  |_=>
   simp only[z,hf]at h;obtain⟨n,⟨c,b,u,t⟩,r⟩:=h;exact join n ⟨rfl,rfl,.inr ⟨⟨c,b,u,t⟩,rfl⟩⟩ r
end
section
variable {P:Program} {N:Nat} {ops:Array Oper} {Q:Exit->Act->World->Prop} {K:St->Prop} {rl:List RI} {q:Nat} {ps:List (List Nat)} {pl:List (Option Nat)}
theorem Qz(Hw:P.follows .mixedOrders=true) (hc:Hg P ops ops.toList=some rl) (hf:DrawFactsO (ub ops) rl q ps pl) (B:Dn P pl ps [] q rl K s) (u:∀i p,pO pl i=some p->p<s.m.length)
 {G:Gh} {w:World} (hr:Rel G w a s) (hQ:∀s' G' w' a',K s'->Rel G' w' a' s'->Step G w s.m G' w' s'.m->Q .normal a' w'):(Code.region id ops true).wp P Q a w:=by
 obtain⟨os,rs,s1,x,C,hap⟩:=JA B hf.mE;have c:(rl.take q).length=q:=by rw[iab];have:=hf.hq;omega
 have e:=x.length;rw[c]at e;have A:tn rl os s (λ_=>true) 0=s:=rfl;obtain⟨g1,g2⟩:=Fx.get (pl:=pl) (rl:=rl) (os:=os) (s0:=s) (k:=0) (l:=rl.take q) (os':=os) (s':=s1) (rs:=rs) (by simp) (by simp) (λj hj=>by omega) (by rw[A];exact x);simp only[c,Jab]at g1 g2;subst g2;have r:∀j,Hd (eac ops.size false) j=false:=by
  intro j;unfold Hd;simp only[Xac,Rad]
  grind
 have d:tn rl os s (Hd (eac ops.size false)) q=s:=by
  have ht:∀n,tS (KU rl) (ddC os) (Hd (eac ops.size false)) s.t n=s.t:=by
   intro n
   induction n with
   |zero=>rfl
   |succ n z=>simp_all[tS]
  have hm:∀n,mS (LH os) (Hd (eac ops.size false)) s.m n=s.m:=by
   intro n
   induction n with
   |zero=>rfl
   |succ n z=>simp_all[mS]
  have hw:∀n,sS (KT os) (Hd (eac ops.size false)) s.m n=s.m:=by
   intro n
   induction n with
   |zero=>rfl
   |succ n z=>simp_all[sS]
  grind[tn]
 refine wp_region_any Hw ?_;have v:=Same.drew w;refine vP hc hf (λi hi=>(g1 i hi).1) u ?_ ?_ C ops.size _ G _ a ?_ (by simp) ?_ (λj _=>r j) ?_ (λj _ h=>by simp_all) ?_
 .intro i hi hx;have h:=(g1 i hi).1;rcases y:pO pl i with _|p
  .rw[y]at h;refine⟨?_,rfl⟩
   cases o:rl.getD i fT with
   |call dst g f args=>
    rw[o]at h;obtain⟨h,_⟩:=h
    simp_all
   |op dst g j=>
    rw[o]at h;rcases h with⟨-,⟨_,hcl,h⟩|⟨h,_⟩⟩|⟨-,-,h,_⟩
    .simp only[RI.cls];rcases dac j.cls 2 with h2|h2
     .obtain⟨hm,-⟩:=Ap (s:=tn rl os s (λ_=>true) i) (s':=tn rl os s (λ_=>true) i) (by omega) (λ_ _=>rfl) (λ_ _ _ _=>rfl) h
      simp_all
     omega
    all_goals simp_all
  .rw[y]at h;rcases h with⟨_,_,_,_,h,_⟩|⟨_,_,_,_,_,_,_,_,h,_⟩
   all_goals simp_all
 .grind[zI]
 .grind
 .intro i b _ hi
  simp_all
 .rw[d];exact⟨hr.t.mono (v.le G),v.inv hr.inv,hr.defers⟩
 .intro s' G' w' a' D E k3;rw[d]at k3;exact hQ s' G' w' a' D E ((v.step G s.m).trans k3)
def vA(m:List Ent) (pl:List (Option Nat)):Bool:=pl.all λo=>match o with|some p=>decide (p<m.length)|none=>true
theorem Z1{m:List Ent}{pl:List (Option Nat)}(h:vA m pl=true):∀i p,pO pl i=some p->p<m.length:=by
 intro i p a;unfold vA at h;rw[Xaa]at h;unfold pO at a;have hm:some p∈pl:=by
  grind
 grind
theorem T.anyO(hm:P.follows .mixedOrders=true) {bs:List (List Nat)}{K:Exit->St->Prop}(ps:List (List Nat)) (pl:List (Option Nat)) (c:Nu bs l q ps pl=true) (d:vA s.m pl=true) (h:Dn P pl ps [] q l (K .normal) s):T P N (.any cuts q bs l) K s:=by
 intro code hc G w a hN hr;obtain⟨id,ops,rfl,rfl,b,e⟩:=CY hc;exact Qz hm b (RH (eL e).1 c) h (Z1 d) hr λs' G' w' a' f g k3=>⟨s',G',f,g,k3.T5 hN⟩
theorem Mu{K:St->Prop}:∀{q:Nat}{l:List RI}{ps fp:List (List Nat)}{s:St},fx P ps fp q l K s->Dn P [] ps fp q l K s
 |0,l,ps,fp,s,h=>by simpa only[Dn,fx] using h
 |q+1,[],ps,fp,s,h=>by simp[fx]at h
 |q+1,.op dst g i::l,ps,fp,s,h=>by
  simp only[Dn,fx,Xae,baf]at h⊢;refine⟨h.1,?_⟩;have h2:=h.2
  cases j:gate s g with
  |none=>simp_all
  |some o=>
   cases o with
   |none=>
    simp only[j]at h2⊢;obtain⟨d,m',a,h2,e⟩:=h2;exact⟨d,m',a,h2,Mu e⟩
   |some m=>
    obtain⟨c,b⟩:=m;simp only[j]at h2⊢;refine⟨λhc=>?_,λhc=>Mu (h2.2 hc)⟩;obtain⟨d,m',a,h2,e⟩:=h2.1 hc;exact⟨d,m',a,h2,Mu e⟩
 |q+1,.call dst g f args::l,ps,fp,s,h=>by
  simp only[Dn,fx,Xae,baf]at h⊢
  cases hf:s.cv f with
  |fn k first caps=>
   simp only[hf]at h⊢
   cases j:gate s g with
   |none=>simp_all
   |some o=>
    cases o with
    |none=>
     simp only[j]at h⊢;obtain⟨n,d,a,e⟩:=h;exact⟨n,d,a,Mu e⟩
    |some m=>
     obtain⟨c,b⟩:=m;simp only[j]at h⊢;refine⟨h.1,λhc=>?_,λhc=>Mu (h.2.2 hc)⟩;obtain⟨d,a,e⟩:=h.2.1 hc;exact⟨d,a,Mu e⟩
  |_=>simp only[hf]at h
theorem T.any2(hm:P.follows .mixedOrders=true) {bs:List (List Nat)}{K:Exit->St->Prop}(ps:List (List Nat)) (a:Nu bs l q ps []=true) (h:fx P ps [] q l (K .normal) s):T P N (.any cuts q bs l) K s:=
 T.anyO hm ps [] a rfl (Mu h)
theorem T.drawO(hm:P.follows .mixedOrders=true) {K:Exit->St->Prop}(h:Dn P [] [] [] q l (K .normal) s):T P N (.draw q l) K s:=by
 intro code hc G w a hN hr;obtain⟨id,ops,rfl,f,n⟩:=qC hc;have hf:=Ht n;have b:∀i,pO [] i=none:=λi=>rfl;have notgt:∀(j:Nat) d g i,j<q->l[j]?=some (.op d g i)->i.LW=none:=by
  intro j d g i hj hl;have o:=hf.cls j _ hj hl
  cases ht:i.LW with
  |none=>rfl
  |some x=>grind[RI.cls,RE]
 refine Qz hm f (ps:=[]) (pl:=[]) ⟨hf.toTailFacts,?_,?_,?_⟩ h (λi p hp=>by simp_all) hr λs' G' w' a' r t k3=>⟨s',G',r,t,k3.T5 hN⟩
 .intro j y hj e;have:=hf.cls j y hj e;rw[b]
  cases y with
  |call=>rfl
  |op d g i=>grind[RI.mE,RI.cls]
 .intro i j x y c hj hx e hcl;refine hf.apart i j x y c hj hx e ?_
  grind[iv,Dz]
 .intro i j x y c hj hx e m;exfalso;rw[b,b]at m
  cases x with
  |call=>
   cases y with
   |call=>grind[Iv,wB]
   |op d g k=>grind[Iv,wB]
  |op d g k=>
   have o:=notgt i d g k (by omega) hx
   cases y with
   |call=>grind[Iv,wB]
   |op d' g' k'=>grind[Iv,wB]
theorem T.drawP(hm:P.follows .mixedOrders=true) {K:Exit->St->Prop}(ps:List (List Nat)) (pl:List (Option Nat)) (hcl:∀i p,pO pl i=some p->∃a b c d,l[i]?=some (.call a b c d))
 (hps:∀j,j<q->∀i,i<j->i∈ps.getD j []) (n:vA s.m pl=true) (h:Dn P pl ps [] q l (K .normal) s):T P N (.draw q l) K s:=by
 intro code hc G w a hN hr;obtain⟨id,ops,rfl,e,k⟩:=qC hc;have hf:=Ht k;refine Qz hm e (ps:=ps) (pl:=pl) ⟨hf.toTailFacts,?_,?_,?_⟩ h (Z1 n) hr λs' G' w' a' r t k3=>⟨s',G',r,t,k3.T5 hN⟩
 .intro j y hj o;have:=hf.cls j y hj o
  cases y with
  |call=>simp[RI.mE]
  |op d g i=>grind[RI.mE,RI.cls]
 .intro i j x y f hj hx o hcl';refine hf.apart i j x y f hj hx o ?_
  grind[iv,Dz]
 simp_all
end
section
variable {P:Program} {N:Nat}
mutual
def Ad(n:Nat):D->D->Prop
 |.v x,.own i v=>x=.slice none 0 0/\i=n/\v=0
 |.agg l,.agg r=>Iq n l r
 |d,e=>d=e
def Iq(n:Nat):List D->List D->Prop
 |[],r=>r=[]
 |d::l,r=>∃e a,r=e::a/\Ad n d e/\Iq n l a
end
theorem Ad.inv{e:D}(h:Ad n d e):(d=.v (.slice none 0 0)/\e=.own n 0)\/(∃l r,d=.agg l/\e=.agg r/\Iq n l r)\/d=e:=by
 cases d<;>cases e<;>simp_all[Ad]
mutual
theorem Ad.rel{G:Gh}{w:World}{n:Nat}(ho:VRel G w (.own n 0) (.slice none 0 0)):∀{d e:D}{u:Value},Ad n d e->VRel G w d u->VRel G w e u
 |.agg l,e,u,b,h=>by
  rcases b.inv with⟨a,_⟩|⟨l',r,a,rfl,c⟩|rfl
  .grind
  .injection a with a;subst a;simp only[VRel]at h⊢;obtain⟨cs,rfl,h,a⟩:=h;exact⟨cs,rfl,Iq.rel ho c h,a⟩
  omega
 |.v x,e,u,b,h=>by
  rcases b.inv with⟨a,rfl⟩|⟨_,_,a,_⟩|rfl
  .injection a with a;subst a;simp only[VRel]at h;simp_all
  all_goals simp_all
 |.tup l,e,u,b,h=>by rcases b.inv with⟨a,_⟩|⟨_,_,a,_⟩|rfl<;>first|cases a|exact h
 |.sl S l,e,u,b,h=>by rcases b.inv with⟨a,_⟩|⟨_,_,a,_⟩|rfl<;>first|cases a|exact h
 |.pt x,e,u,b,h=>by rcases b.inv with⟨a,_⟩|⟨_,_,a,_⟩|rfl<;>first|cases a|exact h
 |.ref _ _ _ _,e,u,b,h=>by rcases b.inv with⟨a,_⟩|⟨_,_,a,_⟩|rfl<;>first|cases a|exact h
 |.own _ _,e,u,b,h=>by rcases b.inv with⟨a,_⟩|⟨_,_,a,_⟩|rfl<;>first|cases a|exact h
 |.view _ _ _ _,e,u,b,h=>by rcases b.inv with⟨a,_⟩|⟨_,_,a,_⟩|rfl<;>first|cases a|exact h
 |.fn _ _ _,e,u,b,h=>by rcases b.inv with⟨a,_⟩|⟨_,_,a,_⟩|rfl<;>first|cases a|exact h
 |.mp _,e,u,b,h=>by rcases b.inv with⟨a,_⟩|⟨_,_,a,_⟩|rfl<;>first|cases a|exact h
 |.ifc _ _,e,u,b,h=>by rcases b.inv with⟨a,_⟩|⟨_,_,a,_⟩|rfl<;>first|cases a|exact h
 |.dead,e,u,b,h=>by rcases b.inv with⟨a,_⟩|⟨_,_,a,_⟩|rfl<;>first|cases a|exact h
theorem Iq.rel{G:Gh}{w:World}{n:Nat}(ho:VRel G w (.own n 0) (.slice none 0 0)):∀{l r:List D}{us:List Value},Iq n l r->VsRel G w l us->VsRel G w r us
 |[],r,us,a,h=>by simp only[Iq]at a;simp_all
 |d::l,r,us,a,h=>by
  simp only[Iq]at a;obtain⟨e,r',rfl,c,h2⟩:=a;simp only[VsRel]at h⊢;obtain⟨u,b,rfl,g1,g2⟩:=h;exact⟨u,b,rfl,Ad.rel ho c g1,Iq.rel ho h2 g2⟩
end
theorem Iq.row{G:Gh}{w:World}{n b S:Nat}(ho:VRel G w (.own n 0) (.slice none 0 0)):∀{l r:List D}{off:Nat},Iq n l r->Na G w b S l off->Na G w b S r off
 |[],r,off,a,h=>by simp only[Iq]at a;subst a;exact h
 |d::l,r,off,a,h=>by
  simp only[Iq]at a;obtain⟨e,r',rfl,c,h2⟩:=a;simp only[Na]at h⊢;obtain⟨⟨u,g1,g2,g3⟩,g4⟩:=h;exact⟨⟨u,Ad.rel ho c g1,g2,g3⟩,Iq.row ho h2 g4⟩
theorem Iq.length{n:Nat}:∀{l r:List D},Iq n l r->l.length=r.length
 |[],r,h=>by simp[Iq]at h;simp[h]
 |d::l,r,h=>by
  simp only[Iq]at h;obtain⟨e,r',rfl,_,h2⟩:=h;simp[Iq.length h2]
mutual
theorem Ad.refl(n:Nat):∀d:D,Ad n d d
 |.agg l=>by simp only[Ad];exact Iq.refl n l
 |.v x=>by simp[Ad]
 |.tup l=>by simp[Ad]
 |.sl S l=>by simp[Ad]
 |.pt d=>by simp[Ad]
 |.ref ..=>by simp[Ad]
 |.own ..=>by simp[Ad]
 |.view ..=>by simp[Ad]
 |.fn ..=>by simp[Ad]
 |.mp ..=>by simp[Ad]
 |.ifc ..=>by simp[Ad]
 |.dead=>by simp[Ad]
theorem Iq.refl(n:Nat):∀l:List D,Iq n l l
 |[]=>by simp[Iq]
 |d::l=>by simp only[Iq];exact⟨d,l,rfl,Ad.refl n d,Iq.refl n l⟩
end
theorem Iq.cons{e:D}{l r:List D}(h1:Ad n d e) (h2:Iq n l r):Iq n (d::l) (e::r):=by
 simp only[Iq];grind
theorem Ad.nil(n:Nat):Ad n (.v (.slice none 0 0)) (.own n 0):=by simp[Ad]
def WD(n:Nat):Ent->Ent->Prop
 |.live S v l,.live S' c l'=>S=S'/\v=c/\Iq n l l'
 |.mp a,.mp b=>a.map (·.1)=b.map (·.1)/\Iq n (a.map (·.2)) (b.map (·.2))
 |e,e'=>e=e'
def nw(n:Nat):List Ent->List Ent->Prop
 |[],r=>r=[]
 |d::l,r=>∃e a,r=e::a/\WD n d e/\nw n l a
theorem WD.refl(n:Nat) (e:Ent):WD n e e:=by cases e<;>simp[WD,Iq.refl]
theorem nw.refl(n:Nat):∀m:List Ent,nw n m m
 |[]=>by simp[nw]
 |d::l=>by simp only[nw];exact⟨d,l,rfl,WD.refl n d,nw.refl n l⟩
theorem nw.cons{d:Ent}{l r:List Ent}(h1:WD n d e) (h2:nw n l r):nw n (d::l) (e::r):=by
 simp only[nw];grind
theorem WD.live{n S v:Nat}{l r:List D}(h:Iq n l r):WD n (.live S v l) (.live S v r):=by simp only[WD];simp_all
theorem nw.get{n:Nat}:∀{m m':List Ent},nw n m m'->m.length=m'.length/\∀(i:Nat) e,m'[i]?=some e->∃e0,m[i]?=some e0/\WD n e0 e
 |[],m',h=>by simp[nw]at h;subst h;simp
 |d::m,m',h=>by
  simp only[nw]at h;obtain⟨e,r',rfl,a,h2⟩:=h;obtain⟨b,c⟩:=nw.get h2;refine⟨by simp[b],λi e' he=>?_⟩
  cases i with
  |zero=>simp at he;subst he;exact⟨d,rfl,a⟩
  |succ i=>simpa using c i e' (by simpa using he)
theorem nw.append{n:Nat}:∀{m m':List Ent}(x:List Ent),nw n m m'->nw n (m++x) (m'++x)
 |[],m',x,h=>by simp[nw]at h;subst h;exact nw.refl n x
 |d::m,m',x,h=>by
  simp only[nw]at h;obtain⟨e,r',rfl,a,h2⟩:=h;simp only[List.cons_append];exact nw.cons a (nw.append x h2)
theorem K0{G:Gh}{w:World}{n:Nat}(ho:VRel G w (.own n 0) (.slice none 0 0)):∀{a b:List (Value×D)}{es:List MapEntry},a.map (·.1)=b.map (·.1)->Iq n (a.map (·.2)) (b.map (·.2))->Jd G w a es->Jd G w b es
 |[],[],_,_,_,h=>h
 |(k,d)::a,(k',d')::b,es,hk,hd,h=>by
  obtain⟨e,r,c,f,h2,g⟩:=h;simp only[vaa,Iad]at hk;simp only[vaa,Iq,Iad]at hd;obtain⟨x,r',⟨rfl,rfl⟩,g1,g2⟩:=hd;exact⟨e,r,c,by rw[f,hk.1],Ad.rel ho g1 h2,K0 ho hk.2 g2 g⟩
 |[],_::_,_,hk,_,_=>by simp at hk
 |_::_,[],_,hk,_,_=>by simp at hk
theorem WD.rel{G:Gh}{w:World}{e':Ent}(ho:VRel G w (.own n 0) (.slice none 0 0)) (h:WD n e e') (hr:Kk G w i e):Kk G w i e':=by
 cases e with
 |live S v l=>
  cases e' with
  |live S' v' l'=>
   simp only[WD]at h;obtain⟨rfl,rfl,h⟩:=h;obtain⟨a1,a2,a3,a4,a5⟩:=hr;rw[h.length]at a3 a4;refine⟨a1,a2,a3,a4,?_⟩;rcases a5 with a5|⟨g,cs,T,d,j,c,m,f⟩
   .exact .inl a5
   .exact .inr ⟨g,cs,T,d,j,c,m,Iq.row ho h f⟩
  |_=>simp[WD]at h
 |mp a=>
  cases e' with
  |mp b=>
   simp only[WD]at h;obtain⟨a1,g,p,o,d,j,c,k⟩:=hr;exact⟨a1,g,p,o,d,j,c,K0 ho h.1 h.2 k⟩
  |_=>simp[WD]at h
 |gone=>simp only[WD]at h;subst h;exact hr
theorem WD.isLive{n:Nat}{e e':Ent}(h:WD n e e'):e'.isLive=e.isLive:=by
 cases e<;>cases e'<;>simp_all[WD,Ent.isLive]
theorem T.QX{c:C}(S:Nat) {t':List D}{m':List Ent}(ht:Iq s.m.length s.t t') (hm:nw s.m.length s.m m') (h:Tm.T P N c K ⟨t',m'++[.live S 0 []]⟩):Tm.T P N c K s:=by
 refine T.ghost (λG w a hN hr=>?_) h;have d:=Gx (w':=w) hr.inv none S 0 0 (.live S 0 []) rfl rfl rfl rfl (Haa _) (λ_ _=>rfl) (λk h=>by cases h)
  ⟨by simp[Gh.add],by simp[Gh.add],by simp[Gh.add],by simp,.inl ⟨by simp[Gh.add],by simp[Gh.add]⟩⟩
 have ho:=uy (s:=s) (b:=none) (S:=S) (N:=0) (C:=0) (w':=w) hr.inv.n;have l:=(nw.append [.live S 0 []] hm).get;have hi:=d.1;refine⟨_,⟨Iq.rel ho ht (hr.t.mono d.2.le),⟨by rw[hi.n,l.1],hi.F,λi e he=>?_,λi j e e' he u hl hl' b hb r=>?_,hi.gl⟩,hr.defers⟩,?_⟩
 .obtain⟨e0,f,g⟩:=l.2 i e he;exact g.rel ho (hi.ent i e0 f)
 .obtain⟨e0,f,g⟩:=l.2 i e he;obtain⟨o,p,q⟩:=l.2 j e' u;exact hi.apart i j e0 o f p (by rw[←g.isLive];omega) (by rw[←q.isLive];omega) b hb r
 .refine { d.2.T5 hN with newB:=λb hb v=>d.2.newB b hb ?_ };obtain⟨i,e,he,hl,x⟩:=v;obtain⟨e0,f,g⟩:=l.2 i e he;exact⟨i,e0,f,by rw[←g.isLive];omega,x⟩
end
def dF(S id x:Nat) (s:St):St:=
 match s.m[id]? with
 |some (.live S' v l)=>
  match l[x]? with
  |some (.v (.slice none 0 0))=>⟨s.t,s.m.set id (.live S' v (l.set x (.own s.m.length 0)))++[.live S 0 []]⟩
  |_=>s
 |_=>s
theorem Iq.set{n:Nat}:∀{l:List D}{x:Nat},l[x]?=some (.v (.slice none 0 0))->Iq n l (l.set x (.own n 0))
 |[],x,h=>by grind
 |d::l,0,h=>by grind[Iq.cons,Ad.nil,Iq.refl]
 |d::l,x+1,h=>Iq.cons (Ad.refl n d) (Iq.set (by simp_all))
theorem nw.set{n S v:Nat}{l l':List D}(hl:Iq n l l'):∀{m:List Ent}{id:Nat},m[id]?=some (.live S v l)->nw n m (m.set id (.live S v l'))
 |[],id,h=>by grind
 |e::m,0,h=>by grind[nw.cons,WD.live,nw.refl]
 |e::m,id+1,h=>nw.cons (WD.refl n e) (nw.set hl (by simp_all))
theorem RX{P:Program}{N:Nat}{c:C}{x:Nat}(h:Tm.T P N c K (dF S id x s)):Tm.T P N c K s:=by
 unfold dF at h;split at h
 .rename_i S' v l hm;split at h
  .rename_i hx;exact T.QX S (Iq.refl _ _) (nw.set (Iq.set hx) hm) h
  omega
 omega
def Ju(S id:Nat):Nat->St->St
 |0,s=>s
 |x+1,s=>dF S id x (Ju S id x s)
theorem iC{P:Program}{N:Nat}{c:C}{K:Exit->St->Prop}{S id:Nat}:∀{x:Nat}{s:St},Tm.T P N c K (Ju S id x s)->Tm.T P N c K s
 |0,s,h=>h
 |x+1,s,h=>iC (x:=x) (RX h)
def makS:RI->Option Nat
 |.op _ none (.alloc S _)=>some S
 |.op _ none (.box S _)=>some S
 |.op _ none (.bslice S _ _ _)=>some S
 |_=>none
def isMk:RI->Bool
 |.op _ _ i=>Tae i.cls 2
 |_=>false
def places:List RI->Nat->List (Option Nat)
 |[],_=>[]
 |r::l,n=>
  match makS r with
  |some _=>bif l.any isMk then some n::places l (n+1)else none::places l n
  |none=>none::places l n
def lent(m:List Ent) (d:D):Option D:=
 bif flat d then some d else
 match d with
 |.own id Ma=>
  match m[id]? with
  |some (.live S v l)=>bif Tae v Ma&&VI l then some (.sl S l)else none
  |_=>none
 |_=>none
def QD(id Ma:Nat) (d:D):D:=
 match d with
 |.ref i v x s=>bif Tae i id&&Tae v Ma then .ref 0 0 x s else .dead
 |d=>bif pa d then d else .dead
theorem sW{G G':Gh}{w:World}(a:SubF G w G' w) (hr:∀x s u,VRel G w (.ref id Ma x s) u->VRel G' w (.ref 0 0 x s) u) {u:Value}(h:VRel G w d u):VRel G' w (QD id Ma d) u:=by
 unfold QD;split
 .rename_i i v x s;cases hb:(Tae i id&&Tae v Ma)
  .simp[VRel]
  simp_all
 .cases hf:pa d
  .simp[VRel]
  .exact h.free a hf
section
variable {P:Program}
theorem nY{l X:List D}{m m1:List Ent}{ds:List D}{d1:D}
 (t:m[id]?=some (.live S Ma l)) (hl:fa l=true) (J:m1[0]?=some (.live S 0 X))
 (h:CallT P k (ds.map (QD id Ma)) [.live S 0 l] λd m'=>d=d1/\m'=m1) :
 CallT P k ds m λd m'=>d=Af 8 (m1.set 0 .gone) d1/\m'=m.set id (.live S Ma (X.map (Af 8 (m1.set 0 .gone)))):=by
 refine⟨h.1,λG w vs hv hi=>?_⟩;have hlen:id<m.length:=(fab.1 t).1;obtain⟨eV,eS,eN,eC,eB⟩:=hi.ent id _ t;have M:SubF G w ⟨G.F,1,λ_=>G.B id,λ_=>0,λ_=>G.S id,λ_=>G.N id,λ_=>G.C id⟩ w:=⟨λ_ h=>h,λ_ _=>rfl⟩;have hv':=ur (G':=⟨G.F,1,λ_=>G.B id,λ_=>0,λ_=>G.S id,λ_=>G.N id,λ_=>G.C id⟩) (f:=QD id Ma) (λd u hu=>sW M (λx s u hu=>by
  simp only[VRel]at hu⊢
  grind) hu) hv
 have hic:Inv ⟨G.F,1,λ_=>G.B id,λ_=>0,λ_=>G.S id,λ_=>G.N id,λ_=>G.C id⟩ w [.live S 0 l]:=by
  refine⟨rfl,hi.F,?_,?_,hi.gl.bare λ_ h=>h⟩
  .intro i e he
   cases i with
   |zero=>
    simp at he;subst he;refine⟨rfl,eS,eN,eC,?_⟩;rcases eB with h|⟨b,cs,T,p,h2,W,Z,h5⟩
    .simp_all
    .exact .inr ⟨b,cs,T,p,h2,W,Z,Na.free M rfl hl h5⟩
   |succ i=>simp at he
  grind
 have r:∀b,Bf ⟨G.F,1,λ_=>G.B id,λ_=>0,λ_=>G.S id,λ_=>G.N id,λ_=>G.C id⟩ [.live S 0 l] b->G.B id=some b:=by
  rintro b ⟨i,e,he,-,E⟩;omega
 refine(h.2 _ w vs hv' hic).mono ?_;rintro e w' ⟨v,d,m',G',rfl,⟨rfl,rfl⟩,hvd,g,a⟩;obtain⟨fV,fS,fN,fC,fB⟩:=g.ent 0 _ J;have hlen1:0<m'.length:=(fab.1 J).1;have live1:(Ent.live S Ma l).isLive=true:=rfl;obtain⟨sB,sS,sN,sC⟩:G'.B 0=G.B id/\G'.S 0=G.S id/\G'.N 0=G.N id/\G'.C 0=G.C id:=by
  rcases a.le.id 0 (Nat.lt_succ_self 0)with⟨_,p,h2,W,Z⟩|h
  all_goals simp_all
 have c:∀i x,(m'.set 0 .gone)[i]?=some x->(i=0/\x=.gone)\/(i≠0/\m'[i]?=some x):=by
  grind
 have O:Inv G' w' (m'.set 0 .gone):=by
  refine⟨by simpa using g.n,g.F,?_,?_,g.gl⟩
  .intro i x hx;rcases c i x hx with⟨rfl,rfl⟩|⟨L,hx⟩
   .trivial
   .exact g.ent i x hx
  .intro i j x y hx U A Y b hb I;rcases c i x hx with⟨rfl,rfl⟩|⟨L,hx⟩
   .cases A
   .rcases c j y U with⟨rfl,rfl⟩|⟨p,U⟩
    .cases Y
    .exact g.apart i j x y hx U A Y b hb I
 have H:∀b,Bf G' (m'.set 0 .gone) b->Bf G' m' b/\G'.B 0≠some b:=by
  rintro b ⟨i,x,hx,A,E⟩;rcases c i x hx with⟨rfl,rfl⟩|⟨L,hx⟩
  .cases A
  .exact⟨⟨i,x,hx,A,E⟩,λh=>L (g.apart i 0 x _ hx J A rfl b E h)⟩
 have hF':∀b,(G'.F b\/Bf G' (m'.set 0 .gone) b)->b<w'.heap.size:=by
  rintro b (hb|hb)
  .exact g.F b hb
  .exact(Bf.lt O hb).1
 have R:∀d u,VRel G' w' d u->VRel ⟨λb=>G'.F b\/Bf G' (m'.set 0 .gone) b,G.n,G.B,G.V,G.S,G.N,G.C⟩ w' (Af 8 (m'.set 0 .gone) d) u:=by
  intro d u hu;have L:=HM O 8 d u hu;refine VRel.free ?_ (Ry _ _ _) L;exact⟨λ_ h=>h,λ_ _=>rfl⟩
 have Q:Le G w ⟨λb=>G'.F b\/Bf G' (m'.set 0 .gone) b,G.n,G.B,G.V,G.S,G.N,G.C⟩ w':=
  ⟨λb hb=>.inl (a.le.F b hb),λb hb=>a.le.heap b hb,Haa _,λi _=>.inl (by simp)⟩
 have K:∀i x,m[i]?=some x->x.isLive=true->∀b,G.B i=some b->b<w.heap.size/\¬G.F b:=λi x hx hl b hb=>(hi.ent i x hx).lt hl hb;have notO:∀i x,m[i]?=some x->x.isLive=true->i≠id->∀b,G.B i=some b->G.B id≠some b:=λi x hx o hne b hb E=>hne (hi.apart i id x _ hx t o live1 b hb E);have q:∀i x,(m.set id (.live S Ma (X.map (Af 8 (m'.set 0 .gone)))))[i]?=some x->(m[i]?=some x/\i≠id)\/(i=id/\x=.live S Ma (X.map (Af 8 (m'.set 0 .gone)))):=by
  grind
 refine⟨v,_,_,⟨λb=>G'.F b\/Bf G' (m'.set 0 .gone) b,G.n,G.B,G.V,G.S,G.N,G.C⟩,rfl,⟨rfl,rfl⟩,R _ _ hvd,⟨by simp[hi.n],hF',?_,?_,g.gl.bare λ_ h=>.inl h⟩,⟨Q,a.os,a.tape,a.output,a.size,?_,?_,?_⟩⟩
 .intro i x hx;rcases q i x hx with⟨p,h2⟩|⟨rfl,rfl⟩
  .by_cases o:x.isLive=true
   .refine(hi.ent i x p).mono Q (by simp) (λb hb=>?_) (λb hb _ z=>?_)
    .exact a.keep b (K i x p o b hb).1 λho=>notO i x p o h2 b hb (r b ho)
    .rcases z with z|z
     .rcases a.newF b (K i x p o b hb).1 z with h|h
      all_goals grind
     .exact(notO i x p o h2 b hb (r b (a.newB b (K i x p o b hb).1 (H b z).1))).elim
   .cases x with
    |gone=>trivial
    |_=>grind[Ent.isLive]
  .refine⟨eV,eS,by simp_all,by simp_all,?_⟩
   grind[Ks]
 .intro i j x y hx U A Y b hb I;rcases q i x hx with⟨p,h2⟩|⟨rfl,rfl⟩<;>rcases q j y U with⟨W,Z⟩|⟨rfl,rfl⟩
  .exact hi.apart i j x y p W A Y b hb I
  all_goals grind
 .intro b hb hno;exact a.keep b hb λho=>hno ⟨id,_,t,live1,r b ho⟩
 .intro b hb z;rcases z with z|z
  .rcases a.newF b hb z with h|h
   all_goals grind
  .exact .inr ⟨id,_,t,live1,r b (a.newB b hb (H b z).1)⟩
 .rintro b hb ⟨i,x,hx,A,E⟩;rcases q i x hx with⟨p,h2⟩|⟨rfl,rfl⟩
  .exact⟨i,x,p,A,E⟩
  .exact⟨i,_,t,live1,E⟩
end
def Ix(q:Nat):List (List Nat):=(xaa q).map xaa
theorem HL{q:Nat}:∀j,j<q->∀i,i<j->i∈(Ix q).getD j []:=by
 grind[Ix]
end Go.Tm
