/-
  The engine: a part of the proof that trees of values are carried along by the program: no condition.
-/
import Derived.Test.YtjiaejcpmcknnaaGreatDoorEA
import Derived.Orders
open Array renaming getD_eq_getD_getElem?->aad,getElem?_eq_getElem->Zab,getElem?_replicate->Nad,length_toList->Jac,range->Rad,replicate->jac
open Bool renaming and_eq_true->Vaa,or_eq_true->Dad
open List renaming all_eq_true->Nab,append_nil->vab,drop_eq_getElem_cons->Fab,drop_eq_nil_of_le->uad,getD_cons_succ->zab,getD_eq_getElem?_getD->uac,getElem?_eq_getElem->Maa,getElem?_eq_some_iff->yab,getElem?_set->Qad,headD_nil->Qae,length_append->uab,length_take->mad,map_cons->xab,mem_append->Jab,mem_cons->kac,mem_range->Gac,range->Zaa,replicate->Oaa,set_comm->Sae,size_toArray->gad,tail_nil->Tae,take_succ_cons->Mab
open Nat renaming beq->Mae,le_refl->dab,le_total->Wae,le_trans->dac,lt_of_lt_of_le->Bab,lt_or_ge->sac,strongRecOn->tad,zero_add->eac
open Option renaming bind_eq_some_iff->qac,getD_some->Nac,map_eq_some_iff->Paa
open Option.some renaming injEq->wab
open Prod.mk renaming injEq->mab
set_option linter.all false
namespace Go.Tm
open Go.RowKit (Below)
section
variable {P:Program}
structure StepN (N:Nat) (G:Gh) (w:World) (m:List Ent) (G':Gh) (w':World) (m':List Ent):Prop where
 F:∀b,G.F b->G'.F b
 heap:∀b,G.F b->w'.heap[b]?=w.heap[b]?
 n:N<=G'.n
 id:∀i,i<N->(G'.V i=G.V i/\G'.B i=G.B i/\G'.S i=G.S i/\G'.N i=G.N i/\G'.C i=G.C i)\/G.V i<G'.V i
 os:w'.os=w.os
 tape:w'.tape=w.tape
 output:w'.output=w.output
 size:w.heap.size<=w'.heap.size
 keep:∀b,b<w.heap.size->¬df G m b->w'.heap[b]?=w.heap[b]?
 newF:∀b,b<w.heap.size->G'.F b->G.F b\/df G m b
 newB:∀b,b<w.heap.size->df G' m' b->df G m b
theorem Step.EX{N:Nat}{G G':Gh}{w w':World}{m m':List Ent}(h:Step G w m G' w' m') (hN:N<=G.n):StepN N G w m G' w' m':=
 ⟨h.le.F,h.le.heap,dac hN h.le.n,λi hi=>h.le.id i (Bab hi hN),h.os,h.tape,h.output,h.size,h.keep,h.newF,h.newB⟩
theorem StepN.toStep{G G':Gh}{w w':World}{m m':List Ent}(h:StepN G.n G w m G' w' m'):Step G w m G' w' m':=
 ⟨⟨h.F,h.heap,h.n,h.id⟩,h.os,h.tape,h.output,h.size,h.keep,h.newF,h.newB⟩
theorem StepN.refl{N:Nat}(G:Gh) (w:World) (m:List Ent) (hN:N<=G.n):StepN N G w m G w m:=(Step.refl G w m).EX hN
theorem StepN.trans{N:Nat}{G G' c:Gh}{w w' e:World}{m m' d:List Ent}(h:StepN N G w m G' w' m') (k:StepN N G' w' m' c e d):StepN N G w m c e d where
 F b hb:=k.F b (h.F b hb)
 heap b hb:=(k.heap b (h.F b hb)).trans (h.heap b hb)
 n:=k.n
 id i hi:=by
  have h1:=h.id i hi;have h2:=k.id i hi
  grind
 os:=k.os.trans h.os
 tape:=k.tape.trans h.tape
 output:=k.output.trans h.output
 size:=dac h.size k.size
 keep b hb ho:=(k.keep b (Bab hb h.size) λa=>ho (h.newB b hb a)).trans (h.keep b hb ho)
 newF b hb f:=by
  rcases k.newF b (Bab hb h.size) f with a|a
  .exact h.newF b hb a
  .exact .inr (h.newB b hb a)
 newB b hb a:=h.newB b hb (k.newB b (Bab hb h.size) a)
def T(P:Program) (N:Nat) (c:C) (K:Exit->St->Prop) (s:St):Prop:=
 ∀code,comp P code=some c->∀(G:Gh) (w:World) (a:Act),N<=G.n->Rel G w a s->
  code.wp P (λe a' w'=>∃s' G',K e s'/\Rel G' w' a' s'/\StepN N G w s.m G' w' s'.m) a w
variable {N:Nat}
theorem T.mono{c:C}{K K':Exit->St->Prop}{s:St}(h:T P N c K s) (d:∀e s',K e s'->K' e s'):T P N c K' s:=
 λcode hc G w a hN hr=>Code.wp_mono (λ_ _ _ ⟨s',G',b,h2⟩=>⟨s',G',d _ _ b,h2⟩) (h code hc G w a hN hr)
theorem T.ghost{c:C}{K:Exit->St->Prop}{s s':St}(j:∀(G:Gh) (w:World) (a:Act),N<=G.n->Rel G w a s->∃G',Rel G' w a s'/\StepN N G w s.m G' w s'.m) (h:T P N c K s'):T P N c K s:=by
 intro code hc G w a hN hr;obtain⟨G',e,b⟩:=j G w a hN hr;exact Code.wp_mono (λ_ _ _ ⟨f,d,g,h2,i⟩=>⟨f,d,g,h2,b.trans i⟩) (h code hc G' w a b.n e)
theorem uR{code:Code}(h:comp P code=some .skip):code=.skip\/∃l,code=.label l:=by
 cases code with
 |region id ops draw=>
  cases draw with
  |false=>simp[comp]at h
  |true=>grind[comp]
 |seq a b=>grind[comp]
 |cond c a b=>grind[comp]
 |skip=>simp
 |label l=>simp
 |_=>simp[comp]at h
theorem lU{code:Code}(h:comp P code=some .ret):code=.ret:=by
 cases code with
 |region id ops draw=>
  cases draw with
  |false=>simp[comp]at h
  |true=>grind[comp]
 |seq a b=>grind[comp]
 |cond c a b=>grind[comp]
 |ret=>rfl
 |_=>simp[comp]at h
theorem sR{code:Code}{i:Nat}(h:comp P code=some (.exit i)):code=.exit i:=by
 cases code with
 |region id ops draw=>
  cases draw with
  |false=>simp[comp]at h
  |true=>grind[comp]
 |seq a b=>grind[comp]
 |cond c a b=>grind[comp]
 |exit j=>grind[comp]
 |_=>simp[comp]at h
theorem mM{code:Code}{l:List RI}(h:comp P code=some (.jL l)):∃id ops,code=.region id ops false/\sg P ops ops.toList=some l:=by
 cases code with
 |region id ops draw=>
  cases draw with
  |true=>grind[comp]
  |false=>simp[comp]at h;grind
 |seq a b=>grind[comp]
 |cond c a b=>grind[comp]
 |_=>simp[comp]at h
theorem xC{code:Code}{q:Nat}{l:List RI}(h:comp P code=some (.draw q l)):∃id ops,code=.region id ops true/\sg P ops ops.toList=some l/\BC (zb ops) l q=true:=by
 cases code with
 |region id ops draw=>
  cases draw with
  |false=>simp[comp]at h
  |true=>
   simp only[comp]at h
   grind
 |seq a b=>grind[comp]
 |cond c a b=>grind[comp]
 |_=>simp[comp]at h
theorem kU{code:Code}{cuts:List Nat}{q:Nat}{bs:List (List Nat)}{l:List RI}(h:comp P code=some (.any cuts q bs l)):∃id ops,code=.region id ops true/\bs=zb ops/\sg P ops ops.toList=some l/\zL (zb ops) l cuts q=true:=by
 cases code with
 |region id ops draw=>
  cases draw with
  |false=>simp[comp]at h
  |true=>
   simp only[comp]at h
   grind
 |seq a b=>grind[comp]
 |cond c a b=>grind[comp]
 |_=>simp[comp]at h
theorem mU{code:Code}{c d:C}(h:comp P code=some (.seq c d)):∃x y,code=.seq x y/\comp P x=some c/\comp P y=some d:=by
 cases code with
 |region id ops draw=>
  cases draw with
  |false=>simp[comp]at h
  |true=>grind[comp]
 |seq a b=>
  simp only[comp]at h
  grind
 |cond c a b=>grind[comp]
 |_=>simp[comp]at h
theorem rR{code:Code}{t:Operand}{c d:C}(h:comp P code=some (.cond t c d)):∃x y,code=.cond t x y/\comp P x=some c/\comp P y=some d:=by
 cases code with
 |region id ops draw=>
  cases draw with
  |false=>simp[comp]at h
  |true=>grind[comp]
 |seq a b=>grind[comp]
 |cond t' a b=>
  grind[comp]
 |_=>simp[comp]at h
theorem mO{code:Code}{i:Nat}{c:C}(h:comp P code=some (.block i c)):∃x,code=.block i x/\comp P x=some c:=by
 cases code with
 |region id ops draw=>
  cases draw with
  |false=>simp[comp]at h
  |true=>grind[comp]
 |seq a b=>grind[comp]
 |cond c a b=>grind[comp]
 |block j b=>simp_all[comp]
 |_=>simp[comp]at h
theorem tR{code:Code}{c:C}(h:comp P code=some (.loop c)):∃x,code=.loop x/\comp P x=some c:=by
 cases code with
 |region id ops draw=>
  cases draw with
  |false=>simp[comp]at h
  |true=>grind[comp]
 |seq a b=>grind[comp]
 |cond c a b=>grind[comp]
 |loop b=>simp[comp]at h;simp_all
 |_=>simp[comp]at h
theorem T.skip{K:Exit->St->Prop}{s:St}(h:K .normal s):T P N .skip K s:=by
 intro code hc G w a hN hr;rcases uR hc with rfl|⟨l,rfl⟩
 all_goals grind[wp_skip,StepN.refl,wp_label]
theorem T.ret{K:Exit->St->Prop}{s:St}(h:K .ret s):T P N .ret K s:=by
 intro code hc G w a hN hr;obtain rfl:=lU hc
 grind[wp_ret,StepN.refl]
theorem T.exit{id:Nat}{K:Exit->St->Prop}{s:St}(h:K (.exit id) s):T P N (.exit id) K s:=by
 intro code hc G w a hN hr;obtain rfl:=sR hc
 grind[wp_exit,StepN.refl]
theorem T.jL{l:List RI}{K:Exit->St->Prop}{s:St}(h:Lj P l (K .normal) s):T P N (.jL l) K s:=by
 intro code hc G w a hN hr;obtain⟨id,ops,rfl,b⟩:=mM hc;exact wp_region_list (yA b h hr λs' G' w' a' c h2 d=>⟨s',G',c,h2,d.EX hN⟩)
theorem T.seq{c d:C}{K:Exit->St->Prop}{s:St}(h:T P N c (λe s'=>match e with|.normal=>T P N d K s'|e=>K e s') s):T P N (.seq c d) K s:=by
 intro code hc G w a hN hr;obtain⟨x,y,rfl,k,h2⟩:=mU hc;refine wp_seq (Code.wp_mono ?_ (h x k G w a hN hr));rintro e a' w' ⟨s',G',j,f,b⟩
 cases e with
 |normal=>exact Code.wp_mono (λ_ _ _ ⟨i,g,l,m,k3⟩=>⟨i,g,l,m,b.trans k3⟩) (j y h2 G' w' a' b.n f)
 |_=>exact⟨s',G',j,f,b⟩
theorem T.cond{c:Operand}{x y:C}{t:Bool}{K:Exit->St->Prop}{s:St}(ht:s.ev c=.v (.bool t)) (f:t=true->T P N x K s) (h2:t=false->T P N y K s):T P N (.cond c x y) K s:=by
 intro code hc G w a hN hr;obtain⟨g,h,rfl,b,d⟩:=rR hc;have hv:=hr.ev c;rw[ht]at hv;simp only[VRel]at hv;exact wp_cond_split hv (λe=>f e g b G w a hN hr) (λe=>h2 e h d G w a hN hr)
theorem T.block{id:Nat}{x:C}{K:Exit->St->Prop}{s:St}(h:T P N x (λe s'=>match e with|.exit c=>if c=id then K .normal s' else K (.exit c) s'|e=>K e s') s):T P N (.block id x) K s:=by
 intro code hc G w a hN hr;obtain⟨b,rfl,hx⟩:=mO hc;refine wp_block (Code.wp_mono ?_ (h b hx G w a hN hr));rintro e a' w' ⟨s',G',g,d,f⟩
 cases e with
 |exit j=>
  simp only[Exit.inBlock]
  grind
 |_=>exact⟨s',G',g,d,f⟩
theorem wp_loop_ghost{c:Code}{Q:Exit->Act->World->Prop}{X:Type}(J:X->Act->World->Prop) (μ:X->Nat)
 (round:∀x a w,J x a w->c.wp P (Exit.then (λa' w'=>∃y,J y a' w'/\μ y<μ x) Q) a w):∀(x:X) (a:Act) (w:World),J x a w->(Code.loop c).wp P Q a w:=by
 intro x₀ a₀ w₀ h₀ b k cs;have key:∀n (x:X) a w,μ x=n->J x a w->
  ∃e a' w',Q e a' w'/\Arrives P (lone (b.at a (.code c::.inLoop c::k)) cs w) b k cs e a' w':=by
  intro n
  induction n using tad with
  |_ n h=>
   intro x a w hn g;obtain⟨e,a₁,w₁,hq,d⟩:=round x a w g b (.inLoop c::k) cs
   cases e with
   |normal=>
    obtain⟨y,hI₁,f⟩:=hq;obtain⟨e₂,a₂,w₂,hq₂,harr₂⟩:=h (μ y) (hn▸f) y a₁ w₁ rfl hI₁;exact⟨e₂,a₂,w₂,hq₂,.of_steps (Steps.trans d (.one step_inLoop)) harr₂⟩
   |exit id=>exact⟨_,a₁,w₁,hq,.pass (x:=.inLoop c) rfl (λ_ _=>.inl (by simp)) d⟩
   |goto l=>exact⟨_,a₁,w₁,hq,.pass (x:=.inLoop c) rfl (λ_ _=>.inl (by simp)) d⟩
   |ret=>exact⟨_,a₁,w₁,hq,.pass (x:=.inLoop c) rfl (λ_ _=>.inl (by simp)) d⟩
   |panic ch=>exact⟨_,a₁,w₁,hq,.pass (x:=.inLoop c) rfl (λ_ _=>.inl (by simp)) d⟩
   |outgrown=>exact⟨_,a₁,w₁,hq,.pass (x:=.inLoop c) rfl (λ_ _=>.inl (by simp)) d⟩
 obtain⟨e,a',w',hq,d⟩:=key _ x₀ a₀ w₀ rfl h₀;exact⟨e,a',w',hq,.of_steps (.one step_loop) d⟩
theorem T.D5{x:C}{K:Exit->St->Prop}{s:St}{X:Type}(J:X->St->Prop) (μ:X->Nat) (x₀:X) (k:J x₀ s)
 (round:∀y s,J y s->T P N x (λe s'=>match e with|.normal=>∃z,J z s'/\μ z<μ y|e=>K e s') s):T P N (.loop x) K s:=by
 intro code hc G w a hN hr;obtain⟨b,rfl,hx⟩:=tR hc;refine wp_loop_ghost (J:=λ(y:X) a' w'=>∃s' G',J y s'/\Rel G' w' a' s'/\StepN N G w s.m G' w' s'.m) μ ?_ x₀ a w ⟨s,G,k,hr,StepN.refl _ _ _ hN⟩;rintro y j p ⟨s1,i,o,g,c⟩;refine Code.wp_mono ?_ (round y s1 o b hx i p j c.n g);rintro e a' w' ⟨s',G',h,d,f⟩
 cases e with
 |normal=>obtain⟨z,l,h2⟩:=h;exact⟨z,⟨s',G',l,d,c.trans f⟩,h2⟩
 |_=>exact⟨s',G',h,d,c.trans f⟩
def Hu(s:St):RV->Option D
 |.tmp t=>some (s.t.getD t .dead)
 |.cell A n a=>
  match fa s (.load A n (.tmp a))with
  |some (d,_)=>some d
  |none=>none
def Db(s:St):List RV->Option (List D)
 |[]=>some []
 |r::l=>
  match Hu s r,Db s l with
  |some d,some ds=>some (d::ds)
  |_,_=>none
def Bo:List D->D
 |[d]=>d
 |l=>.tup l
def kL(tmps:Array Value):ResultVar->Sem Value
 |.tmp t=>pure (tmps.getD t undef)
 |.cell a t=>do loadVar t (←asAddr (tmps.getD a undef))
theorem pP(fn:Func) (tmps:Array Value):results fn tmps=(do let vs←fn.results.mapM (kL tmps);pure (if h:vs.size=1 then vs[0]else .tuple vs)):=by
 unfold results;rfl
theorem BN:∀{l:List ResultVar}{rl:List RV}{s:St}{G:Gh}{w:World}{a:Act}{ds:List D},uw P l=some rl->Rel G w a s->Db s rl=some ds->
 ∃us:List Value,(l.mapM (kL a.tmps)).run P w=.ok us w/\VsRel G w ds us
 |[],rl,s,G,w,a,ds,hc,hr,hd=>by
  simp only[uw]at hc;injection hc with hc;subst hc;simp only[Db]at hd;injection hd with hd;subst hd;exact⟨[],by simp,by simp[VsRel]⟩
 |r::l,rl,s,G,w,a,ds,hc,hr,hd=>by
  simp only[uw]at hc;split at hc
  .rename_i x y c h2;injection hc with hc;subst hc;simp only[Db]at hd;split at hd
   .rename_i d ds' b f;injection hd with hd;subst hd;obtain⟨us,hrun,hv⟩:=BN h2 hr f
    cases r with
    |tmp t=>
     simp only[lO]at c;injection c with c;subst c;simp only[Hu]at b;injection b with b;subst b;have hx:=hr.ev (.tmp t);simp only[St.ev,Act.eval]at hx;refine⟨a.tmps.getD t undef::us,?_,by simp only[VsRel];grind⟩
     grind[kL,Sem.run_bind,Sem.run_pure,Result.andThen_ok]
    |cell p t=>
     simp only[lO,Paa]at c;obtain⟨q,hq,rfl⟩:=c;simp only[Hu]at b;split at b
     .rename_i e m0 he;injection b with b;subst b;obtain⟨ad,u,g,hrl,hvd,-⟩:=FG (P:=P) hr hq he;simp only[Act.eval]at g;refine⟨u::us,?_,by simp only[VsRel];grind⟩
      grind[kL,asAddr,Sem.run_bind,Sem.run_pure,Result.andThen_ok]
     simp_all
   simp_all
  simp_all
def Yz(rs:List RV) (R:D->List Ent->Prop):Exit->St->Prop
 |.normal,s=>∃ds,Db s rs=some ds/\R (Bo ds) s.m
 |.ret,s=>∃ds,Db s rs=some ds/\R (Bo ds) s.m
 |_,_=>False
theorem q4{G:Gh}{w:World}{ds:List D}{us:List Value}(h:VsRel G w ds us):VRel G w (Bo ds) (if h:us.toArray.size=1 then us.toArray[0]else .tuple us.toArray):=by
 match ds,h with
 |[],h=>
  simp only[VsRel]at h;subst h;simp only[gad,List.length_nil,Bo];rw[dif_neg (by decide)];simp only[VRel,VsRel];simp
 |[d],h=>
  simp only[VsRel]at h;obtain⟨u,r,rfl,hv,rfl⟩:=h
  grind[Bo]
 |d::e::l,h=>
  have hl:=h.length;rw[dif_neg (by simp_all)];simp only[Bo,VRel]
  simp_all
theorem jE{fn:Func}{F:Fun}{s:St}{G:Gh}{w:World}{a:Act}{ds:List D}(hc:uw P fn.results.toList=some F.results) (hr:Rel G w a s) (hd:Db s F.results=some ds) :
 ∃v,(results fn a.tmps).run P w=.ok v w/\VRel G w (Bo ds) v:=by
 obtain⟨us,hrun,hv⟩:=BN hc hr hd;refine⟨_,?_,q4 hv⟩
 grind[pP,Array.mapM_eq_mapM_toList,Sem.run_bind,Sem.run_map,Result.andThen_ok,Sem.run_pure]
theorem CL(G:Gh) (w:World):∀n,VsRel G w (Oaa n .dead) (Oaa n undef)
 |0=>by simp[VsRel]
 |n+1=>by simp only[List.replicate_succ,VsRel];exact⟨_,_,rfl,by simp[VRel],CL G w n⟩
theorem gk{f:FuncId}{F:Fun}{ds:List D}{m:List Ent}{R:D->List Ent->Prop}(g:Kv P f=some F) (hname:((P.funcs[f]?).map λfn=>fn.name == "runtime.NumGoroutine")=some false)
 (h:T P m.length F.code (Yz F.results R) ⟨ds++Oaa (F.ntmps-ds.length) .dead,m⟩):CallT P f ds m R:=by
 unfold Kv at g;split at g
 .rename_i fn i;split at g
  .rename_i b r hb k;simp only[Paa]at g;obtain⟨c,hc,rfl⟩:=g;refine⟨⟨fn,i,by simp_all,by simp_all⟩,λG w vs hv hi=>?_⟩;refine calls_of_wp i hb ?_;have j:=hv.length;have hr:Rel G w { tmps:=vs.toArray++jac (fn.ntmps-vs.toArray.size) undef,defers:=[] } ⟨ds++Oaa (fn.ntmps-ds.length) .dead,m⟩:=by
    refine⟨?_,hi,rfl⟩;simp only[Array.toList_append,Array.toList_replicate,gad,j];exact hv.append (CL _ _ _)
   refine Code.wp_mono ?_ (h b hc G w _ (by rw[hi.n];omega) hr);rintro e a' w' ⟨s',G',p,a,o⟩;have s:Step G w m G' w' s'.m:=by rw[←hi.n]at o;exact o.toStep
   have fin:(∃ds,Db s' r=some ds/\R (Bo ds) s'.m)->a'.defers=[]/\∃v,(results fn a'.tmps).run P w'=.ok v w'/\∃v_1 d m' G',Ending.returned v=.returned v_1/\R d m'/\VRel G' w' d v_1/\Inv G' w' m'/\Step G w m G' w' m':=by
    rintro⟨es,q,u⟩;obtain⟨v,l,t⟩:=jE (F:=⟨fn.ntmps,r,c⟩) k a q;exact⟨a.defers,v,l,v,_,_,G',rfl,u,t,a.inv,s⟩
   cases e with
   |normal=>exact fin p
   |ret=>exact fin p
   |_=>exact p.elim
  simp_all
 simp_all
end
structure SubF (G:Gh) (w:World) (G':Gh) (w':World):Prop where
 F:∀b,G.F b->G'.F b
 heap:∀b,G.F b->w'.heap[b]?=w.heap[b]?
mutual
theorem VRel.free{G G':Gh}{w w':World}(c:SubF G w G' w'):∀{d:D}{u:Value},oa d=true->VRel G w d u->VRel G' w' d u
 |.v x,u,_,h=>by simpa [VRel] using h
 |.agg l,u,hf,h=>by
  simp only[VRel,oa]at h hf⊢;obtain⟨cs,rfl,h,g⟩:=h;exact⟨cs,rfl,VsRel.free c hf h,g⟩
 |.tup l,u,hf,h=>by
  simp only[VRel,oa]at h hf⊢;obtain⟨cs,rfl,h⟩:=h;exact⟨cs,rfl,VsRel.free c hf h⟩
 |.sl S l,u,hf,h=>by
  simp only[VRel,oa]at h hf⊢;obtain⟨a,n,cap,rfl,hn,hc,h⟩:=h;refine⟨a,n,cap,rfl,hn,hc,?_⟩;rcases h with h|⟨b,off,rfl,e,hr⟩
  .simp_all
  .exact .inr ⟨b,off,rfl,c.F b e,Ta.free c (c.heap b e) hf hr⟩
 |.pt d,u,hf,h=>by
  simp only[VRel,oa]at h hf⊢;obtain⟨b,off,x,rfl,e,hd,i⟩:=h;exact⟨b,off,x,rfl,c.F b e,VRel.free c hf hd,i.mono (c.heap b e)⟩
 |.fn f first caps,u,hf,h=>by
  simp only[VRel,oa,Vaa]at h hf⊢;obtain⟨fs,cs,rfl,g,h2⟩:=h;exact⟨fs,cs,rfl,VsRel.free c hf.1 g,VsRel.free c hf.2 h2⟩
 |.ifc t d,u,hf,h=>by
  simp only[VRel,oa]at h hf⊢;obtain⟨x,rfl,h⟩:=h;exact⟨x,rfl,VRel.free c hf h⟩
 |.dead,u,_,h=>by simp[VRel]
 |.ref ..,_,hf,_=>by grind[oa]
 |.own ..,_,hf,_=>by grind[oa]
 |.view ..,_,hf,_=>by grind[oa]
 |.mp _,_,hf,_=>by grind[oa]
theorem VsRel.free{G G':Gh}{w w':World}(a:SubF G w G' w'):∀{l:List D}{us:List Value},ia l=true->VsRel G w l us->VsRel G' w' l us
 |[],us,_,h=>by simpa [VsRel] using h
 |d::l,us,hf,h=>by
  simp only[VsRel,ia,Vaa]at h hf⊢;obtain⟨u,r,rfl,b,h2⟩:=h;exact⟨u,r,rfl,VRel.free a hf.1 b,VsRel.free a hf.2 h2⟩
theorem Ta.free{G G':Gh}{w w':World}(a:SubF G w G' w') {b S:Nat}(hb:w'.heap[b]?=w.heap[b]?) :
 ∀{l:List D} {off:Nat},ia l=true->Ta G w b S l off->Ta G' w' b S l off
 |[],off,_,h=>by simp[Ta]
 |d::l,off,hf,h=>by
  simp only[Ta,ia,Vaa]at h hf⊢;obtain⟨⟨u,c,h2,e⟩,f⟩:=h;exact⟨⟨u,VRel.free a hf.1 c,h2,e.mono hb⟩,Ta.free a hb hf.2 f⟩
end
def cf:Nat->List Ent->D->D
 |0,_,_=>.dead
 |k+1,m,d=>
  match d with
  |.agg l=>.agg (l.map (cf k m))
  |.tup l=>.tup (l.map (cf k m))
  |.sl S l=>if ia l then d else .sl S (l.map (cf k m))
  |.pt d=>.pt (cf k m d)
  |.own id Pa=>
   match m[id]? with
   |some (.live S c l)=>if c=Pa then .sl S (if ia l then l else l.map (cf k m))else .dead
   |_=>.dead
  |.view id Pa lo n=>
   match m[id]? with
   |some (.live S c l)=>if c=Pa/\lo+n<=l.length then .sl S (((if ia l then l else l.map (cf k m)).drop lo).take n)else .dead
   |_=>.dead
  |.ref id Pa x s=>
   match m[id]? with
   |some (.live _ c l)=>if c=Pa/\s=0 then(match l[x]? with|some e=>.pt (cf k m e)|none=>.dead)else .dead
   |_=>.dead
  |.fn f a b=>.fn f (a.map (cf k m)) (b.map (cf k m))
  |.v x=>.v x
  |_=>.dead
theorem OD{f:D->D}(h:∀d,oa (f d)=true):∀l:List D,ia (l.map f)=true
 |[]=>rfl
 |d::l=>by simp[ia,h d,OD h l]
theorem cj:∀{l:List D},ia l=true↔∀d∈l,oa d=true
 |[]=>by simp[ia]
 |d::l=>by simp[ia,cj (l:=l)]
theorem Uy:∀(k:Nat) (m:List Ent) (d:D),oa (cf k m d)=true
 |0,m,d=>rfl
 |k+1,m,d=>by
  have ih:=OD (Uy k m)
  cases d with
  |agg l=>grind[cf,oa]
  |tup l=>grind[cf,oa]
  |sl S l=>
   grind[cf,oa]
  |pt d=>simpa [cf,oa] using Uy k m d
  |own id Pa=>
   grind[cf,oa]
  |view id Pa lo n=>
   grind[cf,oa,cj]
  |ref id Pa x s=>
   simp only[cf];split
   .split
    .split
     .simpa [oa] using Uy k m _
     .rfl
    .rfl
   .rfl
  |fn f a b=>grind[cf,oa]
  |_=>rfl
def Gh.cf(G:Gh) (m:List Ent):Gh:={ G with F:=λb=>G.F b\/df G m b }
theorem Xx{G:Gh}{w:World}{m:List Ent}:SubF G w (G.cf m) w:=⟨λ_ h=>.inl h,λ_ _=>rfl⟩
theorem Br{G:Gh}{w:World}{G':Gh}{f:D->D}(h:∀d u,VRel G w d u->VRel G' w (f d) u):∀{l:List D}{us:List Value},VsRel G w l us->VsRel G' w (l.map f) us
 |[],us,hv=>by simpa [VsRel] using hv
 |d::l,us,hv=>by
  simp only[VsRel,xab]at hv⊢;obtain⟨u,r,rfl,a,h2⟩:=hv;exact⟨u,r,rfl,h d u a,Br h h2⟩
theorem Js{G:Gh}{w:World}{G':Gh}{f:D->D}(h:∀d u,VRel G w d u->VRel G' w (f d) u) {b S:Nat}:∀{l:List D}{off:Nat},Ta G w b S l off->Ta G' w b S (l.map f) off
 |[],off,hv=>by simp[Ta]
 |d::l,off,hv=>by
  simp only[Ta,xab]at hv⊢;obtain⟨⟨u,a,h2,c⟩,e⟩:=hv;exact⟨⟨u,h d u a,h2,c⟩,Js h e⟩
theorem NM{G:Gh}{w:World}{m:List Ent}(hi:Inv G w m):∀(k:Nat) (d:D) (u:Value),VRel G w d u->VRel (G.cf m) w (cf k m d) u
 |0,d,u,_=>by simp[cf,VRel]
 |k+1,d,u,hv=>by
  have z:=NM hi k
  cases d with
  |v x=>simpa [cf,VRel] using hv
  |agg l=>
   simp only[cf,VRel]at hv⊢;obtain⟨cs,rfl,E,h2⟩:=hv;exact⟨cs,rfl,Br z E,h2⟩
  |tup l=>
   simp only[cf,VRel]at hv⊢;obtain⟨cs,rfl,E⟩:=hv;exact⟨cs,rfl,Br z E⟩
  |sl S l=>
   simp only[cf];split
   .rename_i hf;exact hv.free Xx (by grind[oa])
   .simp only[VRel]at hv⊢;obtain⟨a,n,cap,rfl,hn,hc,h⟩:=hv;refine⟨a,n,cap,rfl,by simp_all,hc,?_⟩;rcases h with h|⟨b,off,rfl,A,hr⟩
    .simp_all
    .exact .inr ⟨b,off,rfl,.inl A,Js z hr⟩
  |pt d=>
   simp only[cf,VRel]at hv⊢;obtain⟨b,off,x,rfl,A,hd,P⟩:=hv;exact⟨b,off,x,rfl,.inl A,z d x hd,P⟩
  |own id Pa=>
   simp only[cf];split
   .rename_i S t l hm;split
    .rename_i j;subst j;simp only[VRel]at hv⊢;obtain⟨p,n,c,rfl,F,r,hx⟩:=hv;obtain⟨B,J,M,N,o⟩:=hi.ent _ _ hm;obtain⟨rfl,rfl,rfl⟩:=hx B;have H:(if ia l=true then l else l.map (cf k m)).length=l.length:=by grind
     refine⟨_,_,_,rfl,by omega,by omega,?_⟩
     .rcases o with o|⟨K,cs,T,g,A,q,I,i⟩
      .simp_all
      .refine .inr ⟨K,(G.C id).2,by simp_all,.inr ⟨id,_,hm,rfl,g⟩,?_⟩;split
       .rename_i hf;exact i.free Xx rfl hf
       grind[Js]
    .simp[VRel]
   .simp[VRel]
  |view id Pa lo n=>
   simp only[cf];split
   .rename_i S t l hm;split
    .rename_i j;obtain⟨rfl,hle⟩:=j;simp only[VRel]at hv⊢;obtain⟨p,c,rfl,L,F,r,hx⟩:=hv;obtain⟨B,J,M,N,o⟩:=hi.ent _ _ hm;have H:(if ia l=true then l else l.map (cf k m)).length=l.length:=by grind
     have y:(((if ia l=true then l else l.map (cf k m)).drop lo).take n).length=n:=by
      grind
     refine⟨p,n,c,rfl,y.symm,L,?_⟩
     .rcases hx B with rfl|⟨b,hb,rfl⟩
      .simp
      .rcases o with o|⟨K,cs,T,g,A,q,I,i⟩
       .simp_all
       .rw[hb]at g;injection g with g;subst g;refine .inr ⟨b,lo*S+(G.C id).2,by rw[J],.inr ⟨id,_,hm,rfl,hb⟩,?_⟩;have:Ta (G.cf m) w b S (if ia l=true then l else l.map (cf k m)) (G.C id).2:=by
         split
         .rename_i hf;exact i.free Xx rfl hf
         grind[Js]
        grind[qu,ou]
    .simp[VRel]
   .simp[VRel]
  |ref id Pa x s=>
   simp only[cf];split
   .rename_i S t l hm;split
    .rename_i j;obtain⟨rfl,rfl⟩:=j;split
     .rename_i e he;simp only[VRel]at hv⊢;obtain⟨p,rfl,F,r,hx⟩:=hv;obtain⟨B,J,M,N,o⟩:=hi.ent _ _ hm;obtain⟨b,hb,rfl⟩:=hx B;rcases o with o|⟨K,cs,T,g,A,q,I,i⟩
      .simp_all
      .rw[hb]at g;injection g with g;subst g;obtain⟨O,g1,g2,g3⟩:=Ae.1 i x e he;refine⟨b,_,O,rfl,.inr ⟨id,_,hm,rfl,hb⟩,z e O g1,?_⟩
       grind
     .simp[VRel]
    .simp[VRel]
   .simp[VRel]
  |fn f a b=>
   simp only[cf,VRel]at hv⊢;obtain⟨fs,cs,rfl,E,h2⟩:=hv;exact⟨fs,cs,rfl,Br z E,Br z h2⟩
  |_=>simp[cf,VRel]
def Gh.bare(F:Nat->Prop):Gh:=⟨F,0,λ_=>none,λ_=>0,λ_=>0,λ_=>0,λ_=>(0,0)⟩
theorem bS{g:Nat}{d:D}(h:gtab g=some d):oa d=true:=by
 unfold gtab at h;split at h
 .injection h with h;subst h;rfl
 .cases h
theorem GOK.bare{G G':Gh}{w:World}(h:GOK G w) (a:∀b,G.F b->G'.F b):GOK G' w:=λg d hd=>
 VRel.free (G:=G) (G':=G') ⟨a,λ_ _=>rfl⟩ (d:=.pt d) (by grind[oa,bS]) (h g d hd)
theorem jB{F:Nat->Prop}{w:World}(h:∀b,F b->b<w.heap.size) (a:GOK (Gh.bare F) w):Inv (Gh.bare F) w []:=
 ⟨rfl,h,λi e he=>by simp at he,λi j e e' he=>by simp,a⟩
theorem Zy{G:Gh}{b:Nat}:¬df G [] b:=λ⟨i,e,he,_⟩=>by simp at he
theorem fJ{G G':Gh}{F:Nat->Prop}{w w':World}{m m':List Ent}(hi:Inv G w m) (d:Step (Gh.bare F) w [] G' w' m') (l:Inv G' w' m') (o:∀b,G.F b->F b) :
 (∀b,b<w.heap.size->w'.heap[b]?=w.heap[b]?)/\
 (Inv G w' m/\Step G w m G w' m)/\
 ((∀b,F b->G.F b)->Inv { G with F:=λb=>G'.F b\/df G' m' b } w' m/\Step G w m { G with F:=λb=>G'.F b\/df G' m' b } w' m):=by
 have a:∀b,b<w.heap.size->w'.heap[b]?=w.heap[b]?:=λb hb=>d.keep b hb Zy;have f:∀i x,m[i]?=some x->x.isLive=true->∀k,G.B i=some k->k<w.heap.size:=λi x hx hl k hk=>((hi.ent i x hx).lt hl hk).1;refine⟨a,?_,λj=>?_⟩
 .have c:Le G w G w':=⟨λ_ h=>h,λb hb=>a b (hi.F b hb),dab _,λ_ _=>.inl ⟨rfl,rfl,rfl,rfl,rfl⟩⟩;refine⟨⟨hi.n,λb hb=>Bab (hi.F b hb) d.size,λi e he=>?_,hi.apart,hi.gl.mono c⟩,⟨c,d.os,d.tape,d.output,d.size,λb hb _=>a b hb,λ_ _ h=>.inl h,λ_ _ h=>h⟩⟩;by_cases hl:e.isLive=true
  .exact(hi.ent i e he).mono c ⟨rfl,rfl,rfl,rfl,rfl⟩ (λb hb=>a b (f i e he hl b hb)) (λ_ _ _ h=>h)
  .cases e with
   |gone=>trivial
   |_=>grind[Ent.isLive]
 .have c:Le G w { G with F:=λb=>G'.F b\/df G' m' b } w':=⟨λb h=>.inl (d.le.F b (o b h)),λb hb=>a b (hi.F b hb),dab _,λ_ _=>.inl ⟨rfl,rfl,rfl,rfl,rfl⟩⟩;have g:∀b,b<w.heap.size->(G'.F b\/df G' m' b)->G.F b:=by
   intro b hb h;rcases h with h|h
   .rcases d.newF b hb h with h|h
    .exact j b h
    grind[Zy]
   .exact(Zy (d.newB b hb h)).elim
  refine⟨⟨hi.n,?_,λi e he=>?_,hi.apart,hi.gl.mono c⟩,⟨c,d.os,d.tape,d.output,d.size,λb hb _=>a b hb,λb hb h=>.inl (g b hb h),λ_ _ h=>h⟩⟩
  .rintro b (h|h)
   .exact l.F b h
   grind[df.lt]
  .by_cases hl:e.isLive=true
   .exact(hi.ent i e he).mono c ⟨rfl,rfl,rfl,rfl,rfl⟩ (λb hb=>a b (f i e he hl b hb)) (λb hb _ h=>g b (f i e he hl b hb) h)
   .cases e with
    |gone=>trivial
    |_=>grind[Ent.isLive]
mutual
def flat:D->Bool
 |.v _=>true
 |.agg l=>tJ l
 |.tup l=>tJ l
 |.dead=>true
 |_=>false
def tJ:List D->Bool
 |[]=>true
 |d::l=>flat d&&tJ l
end
mutual
theorem VRel.flat{G G':Gh}{w w':World}:∀{d:D}{u:Value},flat d=true->VRel G w d u->VRel G' w' d u
 |.v x,u,_,h=>by simpa [VRel] using h
 |.agg l,u,hf,h=>by
  simp only[VRel,Tm.flat]at h hf⊢;obtain⟨cs,rfl,h,a⟩:=h;exact⟨cs,rfl,VsRel.flat hf h,a⟩
 |.tup l,u,hf,h=>by
  simp only[VRel,Tm.flat]at h hf⊢;obtain⟨cs,rfl,h⟩:=h;exact⟨cs,rfl,VsRel.flat hf h⟩
 |.dead,u,_,h=>by simp[VRel]
 |.sl ..,_,hf,_=>by grind[Tm.flat]
 |.pt ..,_,hf,_=>by grind[Tm.flat]
 |.fn ..,_,hf,_=>by grind[Tm.flat]
 |.ref ..,_,hf,_=>by grind[Tm.flat]
 |.own ..,_,hf,_=>by grind[Tm.flat]
 |.view ..,_,hf,_=>by grind[Tm.flat]
 |.mp _,_,hf,_=>by grind[Tm.flat]
 |.ifc ..,_,hf,_=>by grind[Tm.flat]
theorem VsRel.flat{G G':Gh}{w w':World}:∀{l:List D}{us:List Value},tJ l=true->VsRel G w l us->VsRel G' w' l us
 |[],us,_,h=>by simpa [VsRel] using h
 |d::l,us,hf,h=>by
  simp only[VsRel,tJ,Vaa]at h hf⊢;obtain⟨u,r,rfl,a,h2⟩:=h;exact⟨u,r,rfl,VRel.flat hf.1 a,VsRel.flat hf.2 h2⟩
end
open Go.RowKit (Below)
mutual
def Sub:D->D->Prop
 |_,.dead=>True
 |.v x,.sl _ l=>x=.slice none 0 0/\l=[]
 |.agg l,.agg r=>va l r
 |.tup l,.tup r=>va l r
 |.sl S l,.sl S' r=>S=S'/\va l r
 |d,e=>d=e
def va:List D->List D->Prop
 |[],r=>r=[]
 |d::l,r=>∃e a,r=e::a/\Sub d e/\va l a
end
theorem va.length:∀{l r:List D},va l r->l.length=r.length
 |[],r,h=>by simp[va]at h;simp[h]
 |d::l,r,h=>by
  simp only[va]at h;obtain⟨e,r',rfl,_,h2⟩:=h;simp[va.length h2]
mutual
theorem Sub.rel{G:Gh}{w:World}:∀{d e:D}{u:Value},Sub d e->VRel G w d u->VRel G w e u
 |d,.dead,u,_,_=>by simp[VRel]
 |.v x,.sl S l,u,f,h=>by
  simp only[Sub]at f;obtain⟨rfl,rfl⟩:=f;simp only[VRel]at h⊢
  grind
 |.agg l,.agg r,u,f,h=>by
  simp only[Sub]at f;simp only[VRel]at h⊢;obtain⟨cs,rfl,h,g⟩:=h;exact⟨cs,rfl,va.rel f h,g⟩
 |.tup l,.tup r,u,f,h=>by
  simp only[Sub]at f;simp only[VRel]at h⊢;obtain⟨cs,rfl,h⟩:=h;exact⟨cs,rfl,va.rel f h⟩
 |.sl S l,.sl S' r,u,f,h=>by
  simp only[Sub]at f;obtain⟨rfl,f⟩:=f;simp only[VRel]at h⊢;obtain⟨a,n,cap,rfl,hn,hc,h⟩:=h;refine⟨a,n,cap,rfl,by rw[←f.length];omega,hc,?_⟩;rcases h with rfl|⟨b,off,rfl,i,hr⟩
  .simp only[va]at f;simp_all
  .exact .inr ⟨b,off,rfl,i,va.row f hr⟩
 |.v x,.v y,u,f,h=>by simp only[Sub]at f;simp_all
 |.v x,.agg y,u,f,h=>by simp only[Sub]at f;grind
 |.v x,.tup y,u,f,h=>by simp only[Sub]at f;grind
 |.v x,.pt y,u,f,h=>by simp only[Sub]at f;grind
 |.v x,.ref ..,u,f,h=>by simp only[Sub]at f;grind
 |.v x,.own ..,u,f,h=>by simp only[Sub]at f;grind
 |.v x,.view ..,u,f,h=>by simp only[Sub]at f;grind
 |.v x,.fn ..,u,f,h=>by simp only[Sub]at f;grind
 |.v x,.mp ..,u,f,h=>by simp only[Sub]at f;grind
 |.v x,.ifc ..,u,f,h=>by simp only[Sub]at f;grind
 |.agg l,.v y,u,f,h=>by simp only[Sub]at f;grind
 |.agg l,.tup y,u,f,h=>by simp only[Sub]at f;grind
 |.agg l,.sl ..,u,f,h=>by simp only[Sub]at f;grind
 |.agg l,.pt y,u,f,h=>by simp only[Sub]at f;grind
 |.agg l,.ref ..,u,f,h=>by simp only[Sub]at f;grind
 |.agg l,.own ..,u,f,h=>by simp only[Sub]at f;grind
 |.agg l,.view ..,u,f,h=>by simp only[Sub]at f;grind
 |.agg l,.fn ..,u,f,h=>by simp only[Sub]at f;grind
 |.agg l,.mp ..,u,f,h=>by simp only[Sub]at f;grind
 |.agg l,.ifc ..,u,f,h=>by simp only[Sub]at f;grind
 |.tup l,.v y,u,f,h=>by simp only[Sub]at f;grind
 |.tup l,.agg y,u,f,h=>by simp only[Sub]at f;grind
 |.tup l,.sl ..,u,f,h=>by simp only[Sub]at f;grind
 |.tup l,.pt y,u,f,h=>by simp only[Sub]at f;grind
 |.tup l,.ref ..,u,f,h=>by simp only[Sub]at f;grind
 |.tup l,.own ..,u,f,h=>by simp only[Sub]at f;grind
 |.tup l,.view ..,u,f,h=>by simp only[Sub]at f;grind
 |.tup l,.fn ..,u,f,h=>by simp only[Sub]at f;grind
 |.tup l,.mp ..,u,f,h=>by simp only[Sub]at f;grind
 |.tup l,.ifc ..,u,f,h=>by simp only[Sub]at f;grind
 |.sl S l,.v y,u,f,h=>by simp only[Sub]at f;grind
 |.sl S l,.agg y,u,f,h=>by simp only[Sub]at f;grind
 |.sl S l,.tup ..,u,f,h=>by simp only[Sub]at f;grind
 |.sl S l,.pt y,u,f,h=>by simp only[Sub]at f;grind
 |.sl S l,.ref ..,u,f,h=>by simp only[Sub]at f;grind
 |.sl S l,.own ..,u,f,h=>by simp only[Sub]at f;grind
 |.sl S l,.view ..,u,f,h=>by simp only[Sub]at f;grind
 |.sl S l,.fn ..,u,f,h=>by simp only[Sub]at f;grind
 |.sl S l,.mp ..,u,f,h=>by simp only[Sub]at f;grind
 |.sl S l,.ifc ..,u,f,h=>by simp only[Sub]at f;grind
 |.pt x,e,u,f,h=>by cases e<;>simp only[Sub]at f<;>first|(simp[VRel];done)|(rw[←f];exact h)|cases f
 |.ref a b c d,e,u,f,h=>by cases e<;>simp only[Sub]at f<;>first|(simp[VRel];done)|(rw[←f];exact h)|cases f
 |.own a b,e,u,f,h=>by cases e<;>simp only[Sub]at f<;>first|(simp[VRel];done)|(rw[←f];exact h)|cases f
 |.view a b c d,e,u,f,h=>by cases e<;>simp only[Sub]at f<;>first|(simp[VRel];done)|(rw[←f];exact h)|cases f
 |.fn a b c,e,u,f,h=>by cases e<;>simp only[Sub]at f<;>first|(simp[VRel];done)|(rw[←f];exact h)|cases f
 |.mp a,e,u,f,h=>by cases e<;>simp only[Sub]at f<;>first|(simp[VRel];done)|(rw[←f];exact h)|cases f
 |.ifc a b,e,u,f,h=>by cases e<;>simp only[Sub]at f<;>first|(simp[VRel];done)|(rw[←f];exact h)|cases f
 |.dead,e,u,f,h=>by cases e<;>simp only[Sub]at f<;>first|(simp[VRel];done)|(rw[←f];exact h)|cases f
theorem va.rel{G:Gh}{w:World}:∀{l r:List D}{us:List Value},va l r->VsRel G w l us->VsRel G w r us
 |[],r,us,a,h=>by simp only[va]at a;subst a;exact h
 |d::l,r,us,a,h=>by
  simp only[va]at a;obtain⟨e,r',rfl,c,h2⟩:=a;simp only[VsRel]at h⊢;obtain⟨u,b,rfl,g1,g2⟩:=h;exact⟨u,b,rfl,Sub.rel c g1,va.rel h2 g2⟩
theorem va.row{G:Gh}{w:World}{b S:Nat}:∀{l r:List D}{off:Nat},va l r->Ta G w b S l off->Ta G w b S r off
 |[],r,off,a,h=>by simp only[va]at a;subst a;exact h
 |d::l,r,off,a,h=>by
  simp only[va]at a;obtain⟨e,r',rfl,c,h2⟩:=a;simp only[Ta]at h⊢;obtain⟨⟨u,g1,g2,g3⟩,g4⟩:=h;exact⟨⟨u,Sub.rel c g1,g2,g3⟩,va.row h2 g4⟩
end
mutual
theorem Sub.refl:∀d:D,Sub d d
 |.v x=>by simp[Sub]
 |.agg l=>by simp only[Sub];exact va.qc l
 |.tup l=>by simp only[Sub];exact va.qc l
 |.sl S l=>by simp only[Sub,true_and];exact va.qc l
 |.pt d=>by simp[Sub]
 |.ref ..=>by simp[Sub]
 |.own ..=>by simp[Sub]
 |.view ..=>by simp[Sub]
 |.fn ..=>by simp[Sub]
 |.mp ..=>by simp[Sub]
 |.ifc ..=>by simp[Sub]
 |.dead=>by simp[Sub]
theorem va.qc:∀l:List D,va l l
 |[]=>by simp[va]
 |d::l=>by simp only[va];exact⟨d,l,rfl,Sub.refl d,va.qc l⟩
end
section
variable {P:Program} {N:Nat}
theorem T.sub{c:C}{K:Exit->St->Prop}{s:St}(t':List D) (a:va s.t t') (h:T P N c K ⟨t',s.m⟩):T P N c K s:=
 T.ghost (s':=⟨t',s.m⟩) (λG w _ hN hr=>⟨G,⟨a.rel hr.t,hr.inv,hr.defers⟩,StepN.refl _ _ _ hN⟩) h
theorem T.yD{c:C}{K:Exit->St->Prop}{s:St}(i S:Nat) (hi:s.t[i]?=some (.v (.slice none 0 0))) (h:T P N c K ⟨s.t.set i (.own s.m.length 0),s.m++[.live S 0 []]⟩):T P N c K s:=by
 refine T.ghost (λG w a hN hr=>?_) h;have e:=Gx (w':=w) hr.inv none S 0 0 (.live S 0 []) rfl rfl rfl rfl (dab _) (λ_ _=>rfl) (λk h=>by cases h)
  ⟨by simp[Gh.add],by simp[Gh.add],by simp[Gh.add],by simp,.inl ⟨by simp[Gh.add],by simp[Gh.add]⟩⟩
 refine⟨_,⟨?_,e.1,hr.defers⟩,e.2.EX hN⟩;have hx:=VsRel.get i hr.t;rw[uac,hi]at hx;simp only[Nac,VRel]at hx;have hset:=VsRel.set (d:=.own s.m.length 0) (x:=.slice none 0 0) (ry (s:=s) (b:=none) (S:=S) (N:=0) (C:=0) (w':=w) hr.inv.n) i (hr.t.mono e.2.le);have hself:a.tmps.toList.set i (.slice none 0 0)=a.tmps.toList:=by
  rw[←hx];apply List.ext_getElem?
  grind
 simp_all
mutual
def below(k:Nat):D->Bool
 |.agg l=>belows k l
 |.tup l=>belows k l
 |.sl _ l=>belows k l
 |.pt d=>below k d
 |.ref i _ _ _=>decide (i<k)
 |.own i _=>decide (i<k)
 |.view i _ _ _=>decide (i<k)
 |.fn _ a b=>belows k a&&belows k b
 |.mp i=>decide (i<k)
 |.ifc _ d=>below k d
 |_=>true
def belows(k:Nat):List D->Bool
 |[]=>true
 |d::l=>below k d&&belows k l
end
mutual
theorem La(k:Nat):∀d:D,oa d=true->below k d=true
 |.v _,_=>by simp[below]
 |.agg l,h=>by simp only[below];exact Bd k l (by grind[oa])
 |.tup l,h=>by simp only[below];exact Bd k l (by grind[oa])
 |.sl _ l,h=>by simp only[below];exact Bd k l (by grind[oa])
 |.pt d,h=>by simp only[below];exact La k d (by grind[oa])
 |.ifc _ d,h=>by simp only[below];exact La k d (by grind[oa])
 |.fn _ a b,h=>by
  simp only[oa,Vaa]at h;simp only[below,Vaa];exact⟨Bd k a h.1,Bd k b h.2⟩
 |.dead,_=>by simp[below]
 |.ref ..,h=>by grind[oa]
 |.own ..,h=>by grind[oa]
 |.view ..,h=>by grind[oa]
 |.mp _,h=>by grind[oa]
theorem Bd(k:Nat):∀l:List D,ia l=true->belows k l=true
 |[],_=>by simp[belows]
 |d::l,h=>by
  simp only[ia,Vaa]at h;simp only[belows,Vaa];exact⟨La k d h.1,Bd k l h.2⟩
end
def Ent.below(k:Nat):Ent->Bool
 |.live _ _ l=>belows k l
 |.mp es=>es.all λe=>Tm.below k e.2
 |.gone=>true
def Gh.trim(G:Gh) (k:Nat):Gh:={ G with n:=k }
mutual
theorem VRel.trim{G:Gh}{w:World}{k:Nat}:∀{d:D}{u:Value},below k d=true->VRel G w d u->VRel (G.trim k) w d u
 |.v x,u,_,h=>by simpa [VRel] using h
 |.agg l,u,hb,h=>by
  simp only[VRel,below]at h hb⊢;obtain⟨cs,rfl,h,e⟩:=h;exact⟨cs,rfl,VsRel.trim hb h,e⟩
 |.tup l,u,hb,h=>by
  simp only[VRel,below]at h hb⊢;obtain⟨cs,rfl,h⟩:=h;exact⟨cs,rfl,VsRel.trim hb h⟩
 |.sl S l,u,hb,h=>by
  simp only[VRel,below]at h hb⊢;obtain⟨a,n,cap,rfl,hn,hc,h⟩:=h;refine⟨a,n,cap,rfl,hn,hc,?_⟩;rcases h with h|⟨b,off,rfl,g,hr⟩
  .simp_all
  .exact .inr ⟨b,off,rfl,g,Ta.trim hb hr⟩
 |.pt d,u,hb,h=>by
  simp only[VRel,below]at h hb⊢;obtain⟨b,off,x,rfl,g,hd,i⟩:=h;exact⟨b,off,x,rfl,g,VRel.trim hb hd,i⟩
 |.ref ..,u,hb,h=>by
  simp only[VRel,below,decide_eq_true_eq]at h hb⊢;obtain⟨a,hu,_,h⟩:=h;exact⟨a,hu,hb,h⟩
 |.own ..,u,hb,h=>by
  simp only[VRel,below,decide_eq_true_eq]at h hb⊢;obtain⟨a,n,c,hu,_,h⟩:=h;exact⟨a,n,c,hu,hb,h⟩
 |.view ..,u,hb,h=>by
  simp only[VRel,below,decide_eq_true_eq]at h hb⊢;obtain⟨a,c,hu,hn,_,h⟩:=h;exact⟨a,c,hu,hn,hb,h⟩
 |.mp _,u,hb,h=>by
  simp only[VRel,below,decide_eq_true_eq]at h hb⊢;obtain⟨b,hu,_,h⟩:=h;exact⟨b,hu,hb,h⟩
 |.ifc t d,u,hb,h=>by
  simp only[VRel,below]at h hb⊢;obtain⟨x,rfl,h⟩:=h;exact⟨x,rfl,VRel.trim hb h⟩
 |.fn f first caps,u,hb,h=>by
  simp only[VRel,below,Vaa]at h hb⊢;obtain⟨fs,cs,rfl,e,h2⟩:=h;exact⟨fs,cs,rfl,VsRel.trim hb.1 e,VsRel.trim hb.2 h2⟩
 |.dead,u,_,h=>by simp[VRel]
theorem VsRel.trim{G:Gh}{w:World}{k:Nat}:∀{l:List D}{us:List Value},belows k l=true->VsRel G w l us->VsRel (G.trim k) w l us
 |[],us,_,h=>by simpa [VsRel] using h
 |d::l,us,hb,h=>by
  simp only[VsRel,belows,Vaa]at h hb⊢;obtain⟨u,r,rfl,a,h2⟩:=h;exact⟨u,r,rfl,VRel.trim hb.1 a,VsRel.trim hb.2 h2⟩
theorem Ta.trim{G:Gh}{w:World}{k b S:Nat}:∀{l:List D}{off:Nat},belows k l=true->Ta G w b S l off->Ta (G.trim k) w b S l off
 |[],off,_,h=>by simp[Ta]
 |d::l,off,hb,h=>by
  simp only[Ta,belows,Vaa]at h hb⊢;obtain⟨⟨u,a,h2,c⟩,e⟩:=h;exact⟨⟨u,VRel.trim hb.1 a,h2,c⟩,Ta.trim hb.2 e⟩
end
theorem Yd.trim{G:Gh}{w:World}{k:Nat}:∀{l:List (Value×D)}{es:List MapEntry},(l.all λe=>below k e.2)=true->Yd G w l es->Yd (G.trim k) w l es
 |[],es,_,h=>h
 |(q,d)::l,es,hb,h=>by
  simp only[List.all_cons,Vaa]at hb;obtain⟨e,r,a,b,h2,c⟩:=h;exact⟨e,r,a,b,h2.trim hb.1,c.trim hb.2⟩
theorem T.trim{c:C}{K:Exit->St->Prop}{s:St}(k:Nat) (hN:N<=k) (hk:k<=s.m.length) (ht:belows k s.t=true) (hm:(s.m.take k).all (Ent.below k)=true) (h:T P N c K ⟨s.t,s.m.take k⟩):T P N c K s:=by
 refine T.ghost (λG w a hN' hr=>?_) h;have hi:=hr.inv;have d:∀(i:Nat) e,(s.m.take k)[i]?=some e->i<k/\s.m[i]?=some e:=by
  grind
 have p:Inv (G.trim k) w (s.m.take k):=by
  refine⟨by grind[Gh.trim],hi.F,λi e he=>?_,λi j e e' he y hl z b hb g=>hi.apart i j e e' (d i e he).2 (d j e' y).2 hl z b hb g,hi.gl.bare λ_ h=>h⟩;have hbe:e.below k=true:=Nab.1 hm e (List.mem_of_getElem? he);have f:=hi.ent i e (d i e he).2
  cases e with
  |live S Pa l=>
   obtain⟨r,u,v,x,n⟩:=f;refine⟨r,u,v,x,?_⟩;rcases n with n|⟨B,cs,T,g,I,o,A,q⟩
   .exact .inl n
   .exact .inr ⟨B,cs,T,g,I,o,A,q.trim (by grind[Ent.below])⟩
  |mp es=>
   obtain⟨r,b,E,D,u,v,x,n⟩:=f;exact⟨r,b,E,D,u,v,x,n.trim (by grind[Ent.below])⟩
  |gone=>trivial
 refine⟨G.trim k,⟨hr.t.trim ht,p,hr.defers⟩,⟨λ_ h=>h,λ_ _=>rfl,hN,λi hi'=>.inl ⟨rfl,rfl,rfl,rfl,rfl⟩,rfl,rfl,rfl,dab _,λ_ _ _=>rfl,λ_ _ h=>.inl h,?_⟩⟩;rintro b hb ⟨i,e,he,hl,H⟩;exact⟨i,e,(d i e he).2,hl,H⟩
theorem T.loopS{x:C}{K:Exit->St->Prop}{s:St}{X:Type}(S:X->St) (ir:X->Prop) (μ:X->Nat) (x₀:X) (f:ir x₀) (ht:va s.t (S x₀).t) (hm:s.m=(S x₀).m)
 (hb:∀y,ir y->N<=(S y).m.length/\belows (S y).m.length (S y).t=true/\(S y).m.all (Ent.below (S y).m.length)=true)
 (round:∀y,ir y->T P N x (λe s'=>match e with|.normal=>∃z,ir z/\μ z<μ y/\va s'.t (S z).t/\∃g,s'.m=(S z).m++g|e=>K e s') (S y)):T P N (.loop x) K s:=by
 refine T.D5 (J:=λy s'=>ir y/\va s'.t (S y).t/\∃g,s'.m=(S y).m++g) μ x₀ ⟨f,ht,[],by grind⟩ ?_;rintro y s1 ⟨h,b,g,a⟩;obtain⟨c,d,b3⟩:=hb y h;refine T.sub (S y).t b ?_;refine T.trim (S y).m.length c (by simp[a]) d (by simp_all) ?_;have hst:(⟨(S y).t,s1.m.take (S y).m.length⟩:St)=S y:=by
  simp_all
 grind
end
open Go.RowKit (Below)
theorem Ba{s s':St}{x:Operand}(h:∀t∈Se x,s'.t.getD t .dead=s.t.getD t .dead):s'.ev x=s.ev x:=by
 cases x<;>simp[St.ev]
 simp_all[Se]
theorem NF{s s':St}{f:Cal}(h:∀t∈f.tmps,s'.t.getD t .dead=s.t.getD t .dead):s'.cv f=s.cv f:=by
 cases f with
 |tmp t=>exact Ba (x:=.tmp t) λt' h'=>h t' (by grind[Cal.tmps,Se])
 |_=>rfl
theorem Jp{s s':St}{d:Nat}{x:Option Operand}(h:∀t∈ZD x,s'.t.getD t .dead=s.t.getD t .dead):bound s' d x=bound s d x:=by
 cases x with
 |none=>rfl
 |some y=>simp only[bound,Ba (s:=s) (s':=s') (x:=y) (λt ht=>h t ht)]
theorem JA{s s':St}:∀{ps:List (Nat×Nat×Operand)}{l:List D},(∀t∈ps.flatMap (λp=>Se p.2.2),s'.t.getD t .dead=s.t.getD t .dead)->Qs s' ps l=Qs s ps l
 |[],l,h=>rfl
 |(o,n,x)::ps,l,h=>by
  simp only[Qs,Ba (s:=s) (s':=s') (x:=x) (λt ht=>h t (by simp_all))];split
  .exact JA λt ht=>h t (by simp_all)
  .rfl
theorem Cr{s s':St}{S:Nat}:∀{ps:List (Nat×Operand)}{l:List D},(∀t∈ps.flatMap (λp=>Se p.2),s'.t.getD t .dead=s.t.getD t .dead)->zc s' S ps l=zc s S ps l
 |[],l,h=>rfl
 |(o,x)::ps,l,h=>by
  simp only[zc,Ba (s:=s) (s':=s') (x:=x) (λt ht=>h t (by simp_all))];split
  .exact Cr λt ht=>h t (by simp_all)
  .rfl
theorem map_congr{s s':St}:∀{l:List Operand},(∀t∈l.flatMap Se,s'.t.getD t .dead=s.t.getD t .dead)->l.map s'.ev=l.map s.ev
 |[],h=>rfl
 |x::l,h=>by
  simp only[xab,Ba (s:=s) (s':=s') (x:=x) (λt ht=>h t (by simp_all))];rw[map_congr λt ht=>h t (by simp_all)]
theorem qG{s s':St}{g:Option (Tmp×Bool)}(h:∀t∈BK g,s'.t.getD t .dead=s.t.getD t .dead):gate s' g=gate s g:=by
 cases g with
 |none=>rfl
 |some p=>grind[gate,BK]
def Xd:D->Option Nat
 |.ref i _ _ _=>some i
 |.own i _=>some i
 |.view i _ _ _=>some i
 |.mp i=>some i
 |_=>none
def I.Q4:I->Option Operand
 |.load _ _ x|.slice _ x _ _ _|.iaddr _ x _|.len x|.mlook _ _ _ x _|.mlen x|.Zt _ x=>some x
 |_=>none
theorem GG{m m':List Ent}{d:D}(h:∀i,Xd d=some i->m'[i]?=m[i]?):Yc m' d=Yc m d:=by
 unfold Yc;split<;>first|rfl|(rename_i id Pa;rw[h id rfl])|(rename_i id _ _ _;rw[h id rfl])
theorem XO{S:Nat}{m m':List Ent}{d:D}{lo hi:Nat}(h:∀i,Xd d=some i->m'[i]?=m[i]?):bt S m' d lo hi=bt S m d lo hi:=by
 unfold bt;split<;>first|rfl|(rename_i id Pa;rw[h id rfl])|(rename_i id Pa l0 n;rw[h id rfl])
theorem Np{s s':St}{i:I}{d:D}(hc:i.cls<=1) (ht:∀t∈i.reads,s'.t.getD t .dead=s.t.getD t .dead) (hm:∀x id,i.Q4=some x->Xd (s.ev x)=some id->s'.m[id]?=s.m[id]?)
 {m1:List Ent} (he:fa s i=some (d,m1)):m1=s.m/\fa s' i=some (d,s'.m):=by
 cases i with
 |mv x=>
  grind[fa,I.reads,Ba]
 |pick c a b=>
  simp only[fa]at he⊢;rw[Ba (s:=s) (s':=s') (x:=c) (λt h=>ht t (by grind[I.reads])),Ba (s:=s) (s':=s') (x:=a) (λt h=>ht t (by grind[I.reads])),Ba (s:=s) (s':=s') (x:=b) (λt h=>ht t (by grind[I.reads]))];split at he
  all_goals simp_all
 |bin op x y=>
  simp only[fa]at he⊢;rw[Ba (s:=s) (s':=s') (x:=x) (λt h=>ht t (by grind[I.reads])),Ba (s:=s) (s':=s') (x:=y) (λt h=>ht t (by grind[I.reads]))];split at he
  all_goals first|(simp_all;done)|(simp only[Paa,mab]at he⊢;grind)|(simp_all;obtain⟨_,g,h2,j⟩:=he;exact⟨j.symm,_,g,h2⟩)
 |beq n x y=>
  simp only[fa]at he⊢;rw[Ba (s:=s) (s':=s') (x:=x) (λt h=>ht t (by grind[I.reads])),Ba (s:=s) (s':=s') (x:=y) (λt h=>ht t (by grind[I.reads]))];split at he
  all_goals simp_all
 |un op x=>
  simp only[fa]at he⊢;rw[Ba (s:=s) (s':=s') (x:=x) (λt h=>ht t (by grind[I.reads]))];split at he
  all_goals first|(simp_all;done)|(simp only[Paa,mab]at he⊢;grind)|(simp_all;obtain⟨_,g,h2,j⟩:=he;exact⟨j.symm,_,g,h2⟩)
 |conv k x=>
  simp only[fa]at he⊢;rw[Ba (s:=s) (s':=s') (x:=x) (λt h=>ht t (by grind[I.reads]))];split at he
  all_goals simp_all
 |build z ps=>
  simp only[fa]at he⊢;rw[JA (s:=s) (s':=s') (λt h=>ht t (by grind[I.reads]))]
  cases hb:Qs s ps z with
  |none=>simp_all
  |some l=>grind
 |mkifc t x=>
  grind[fa,I.reads,Ba]
 |tassert ok t z x=>
  simp only[fa]at he⊢;rw[Ba (s:=s) (s':=s') (x:=x) (λt h=>ht t (by grind[I.reads]))]
  repeat' split at he
  all_goals simp_all
 |capn x=>
  simp only[fa]at he⊢;rw[Ba (s:=s) (s':=s') (x:=x) (λt h=>ht t (by grind[I.reads]))]
  grind
 |Zt neg x=>
  simp only[fa]at he⊢;rw[Ba (s:=s) (s':=s') (x:=x) (λt h=>ht t (by grind[I.reads]))];split at he
  .simp_all
  .simp_all
  .rename_i id Pa hx;rw[hm x id rfl (by rw[hx];rfl)];split at he
   all_goals simp_all
  simp_all
 |clr S z x=>grind[I.cls]
 |mkapp S b z x n=>grind[I.cls]
 |nilc x=>
  simp only[fa]at he⊢;rw[Ba (s:=s) (s':=s') (x:=x) (λt h=>ht t (by grind[I.reads]))]
  grind
 |faddr A n o x=>
  simp only[fa]at he⊢;rw[Ba (s:=s) (s':=s') (x:=x) (λt h=>ht t (by grind[I.reads]))];split at he
  all_goals first|(simp_all;done)|(simp only[Paa,mab]at he⊢;grind)|(simp_all;obtain⟨_,g,h2,j⟩:=he;exact⟨j.symm,_,g,h2⟩)
 |field A n o x=>
  simp only[fa]at he⊢;rw[Ba (s:=s) (s':=s') (x:=x) (λt h=>ht t (by grind[I.reads]))];split at he
  all_goals first|(simp_all;done)|(simp only[Paa,mab]at he⊢;grind)|(simp_all;obtain⟨_,g,h2,j⟩:=he;exact⟨j.symm,_,g,h2⟩)
 |extract x k=>
  simp only[fa]at he⊢;rw[Ba (s:=s) (s':=s') (x:=x) (λt h=>ht t (by grind[I.reads]))];split at he
  all_goals first|(simp_all;done)|(simp only[Paa,mab]at he⊢;grind)|(simp_all;obtain⟨_,g,h2,j⟩:=he;exact⟨j.symm,_,g,h2⟩)
 |mkfunc f a b=>
  grind[fa,I.reads,map_congr]
 |aaddr A S n x y=>
  simp only[fa]at he⊢;rw[Ba (s:=s) (s':=s') (x:=x) (λt h=>ht t (by grind[I.reads])),Ba (s:=s) (s':=s') (x:=y) (λt h=>ht t (by grind[I.reads]))]
  repeat' split at he
  all_goals first|(simp_all;done)|(simp only[Paa,mab]at he⊢;obtain⟨_,g,rfl,rfl⟩:=he;exact⟨rfl,_,g,by simp⟩)|(simp_all;grind)
 |index A S n x y=>
  simp only[fa]at he⊢;rw[Ba (s:=s) (s':=s') (x:=x) (λt h=>ht t (by grind[I.reads])),Ba (s:=s) (s':=s') (x:=y) (λt h=>ht t (by grind[I.reads]))];split at he
  .split at he
   .rename_i hk;rw[if_pos hk];split at he
    .simp only[Paa,mab]at he⊢
     grind
    simp_all
   simp_all
  simp_all
 |slen x=>
  simp only[fa]at he⊢;rw[Ba (s:=s) (s':=s') (x:=x) (λt h=>ht t (by grind[I.reads]))];split at he
  all_goals simp_all
 |len x=>
  simp only[fa]at he⊢;rw[Ba (s:=s) (s':=s') (x:=x) (λt h=>ht t (by grind[I.reads])),GG (λid h=>hm x id rfl h)]
  cases hb:Yc s.m (s.ev x)with
  |none=>simp_all
  |some l=>grind
 |slice S x lo hi mx=>
  simp only[fa]at he⊢;rw[Ba (s:=s) (s':=s') (x:=x) (λt h=>ht t (by grind[I.reads])),GG (λid h=>hm x id rfl h)]
  cases hb:Yc s.m (s.ev x)with
  |none=>simp_all
  |some n=>
   simp only[hb]at he⊢;rw[Jp (s:=s) (s':=s') (x:=lo) (λt h=>ht t (by grind[I.reads])),Jp (s:=s) (s':=s') (x:=hi) (λt h=>ht t (by grind[I.reads])),Jp (s:=s) (s':=s') (x:=mx) (λt h=>ht t (by grind[I.reads]))];split at he
   .rename_i l h k g h2 j;(try simp only);rw[XO (λid h=>hm x id rfl h)];split at he
    .rename_i hc;rw[if_pos hc]
     cases hs:bt S s.m (s.ev x) l h with
     |none=>simp_all
     |some r=>grind
    simp_all
   simp_all
 |iaddr S x y=>
  simp only[fa]at he⊢;rw[Ba (s:=s) (s':=s') (x:=x) (λt h=>ht t (by grind[I.reads])),Ba (s:=s) (s':=s') (x:=y) (λt h=>ht t (by grind[I.reads]))];split at he
  .split at he
   .rename_i k hk;rw[if_pos hk];split at he
    .repeat' split at he
     all_goals first|(simp_all;done)|(simp only[Paa,mab]at he⊢;obtain⟨_,g,rfl,rfl⟩:=he;exact⟨rfl,_,g,by simp⟩)|(simp_all;grind)
    .rename_i id Pa hx;(try simp only);rw[hm x id rfl (by rw[hx];rfl)]
     repeat' split at he
     all_goals simp_all
    .rename_i id Pa lo n hx;(try simp only);rw[hm x id rfl (by rw[hx];rfl)]
     repeat' split at he
     all_goals simp_all
    simp_all
   simp_all
  simp_all
 |load A n x=>
  simp only[fa]at he⊢;rw[Ba (s:=s) (s':=s') (x:=x) (λt h=>ht t (by grind[I.reads]))];split at he
  .repeat' split at he
   all_goals grind
  .rename_i id Pa idx sub hx;(try simp only);rw[hm x id rfl (by rw[hx];rfl)];split at he
   .rename_i S ver' l hml;(try simp only);split at he
    .rename_i hv;rw[if_pos hv];simp only[qac]at he⊢;obtain⟨e,hl,he⟩:=he;split at he
     .rename_i hok;simp only[Paa,mab]at he
      grind
     simp_all
    simp_all
   simp_all
  simp_all
 |alloc S z=>grind[I.cls]
 |box S x=>grind[I.cls]
 |bslice S n z ps=>grind[I.cls]
 |mkslice S b z l c=>grind[I.cls]
 |store n x y=>grind[I.cls]
 |append S b x y=>grind[I.cls]
 |fail=>grind[fa]
 |mm b xs=>
  simp only[fa]at he⊢;rw[map_congr (s:=s) (s':=s') (l:=xs) (λt h=>ht t (by grind[I.reads]))];split at he
  all_goals first|(simp_all;done)|(simp only[Paa,mab]at he⊢;grind)|(simp_all;obtain⟨_,g,h2,j⟩:=he;exact⟨j.symm,_,g,h2⟩)
 |ceq n ks x y=>
  simp only[fa]at he⊢;rw[Ba (s:=s) (s':=s') (x:=x) (λt h=>ht t (by grind[I.reads])),Ba (s:=s) (s':=s') (x:=y) (λt h=>ht t (by grind[I.reads]))];split at he
  all_goals first|(simp_all;done)|(simp only[Paa,mab]at he⊢;grind)|(simp_all;obtain⟨_,g,h2,j⟩:=he;exact⟨j.symm,_,g,h2⟩)
 |strb S x=>grind[I.cls]
 |trunc S x lo hi=>grind[I.cls]
 |tu x y=>
  simp only[fa]at he⊢;rw[Ba (s:=s) (s':=s') (x:=x) (λt h=>ht t (by grind[I.reads])),Ba (s:=s) (s':=s') (x:=y) (λt h=>ht t (by grind[I.reads]))];split at he
  all_goals simp_all
 |sslice x lo hi=>
  simp only[fa]at he⊢;rw[Ba (s:=s) (s':=s') (x:=x) (λt h=>ht t (by grind[I.reads]))];split at he
  all_goals grind[I.reads,Jp]
 |mkmap=>grind[I.cls]
 |mput K m k x=>grind[I.cls]
 |mlook K ok z x k=>
  simp only[fa]at he⊢;rw[Ba (s:=s) (s':=s') (x:=x) (λt h=>ht t (by grind[I.reads])),Ba (s:=s) (s':=s') (x:=k) (λt h=>ht t (by grind[I.reads]))];split at he
  .split at he
   .rename_i hk;rw[if_pos hk];split at he
    .grind
    .rename_i id hx;(try simp only);rw[hm x id rfl (by rw[hx];rfl)];split at he
     all_goals grind
    simp_all
   simp_all
  simp_all
 |mlen x=>
  simp only[fa]at he⊢;rw[Ba (s:=s) (s':=s') (x:=x) (λt h=>ht t (by grind[I.reads]))];split at he
  .grind
  .rename_i id hx;(try simp only);rw[hm x id rfl (by rw[hx];rfl)];split at he
   all_goals simp_all
  simp_all
theorem jG{s s':St}{i:I}{d:D}(hc:i.cls=2) (ht:∀t∈i.reads,s'.t.getD t .dead=s.t.getD t .dead) (hm:s'.m=s.m) {m1:List Ent}(he:fa s i=some (d,m1)):fa s' i=some (d,m1)/\∃e,m1=s.m++[e]:=by
 cases i with
 |alloc S z=>grind[fa]
 |box S x=>
  simp only[fa]at he⊢;rw[Ba (s:=s) (s':=s') (x:=x) (λt h=>ht t (by grind[I.reads])),hm]
  grind
 |bslice S n z ps=>
  grind[fa,I.reads,Cr,Paa]
 |mkslice S b z l c=>
  grind[fa,I.reads,Ba]
 |mkmap=>
  grind[fa]
 |_=>simp[I.cls]at hc
def Closed(bs:List (List Nat)) (L:Nat->Bool):Prop:=∀i b,bs[i]?=some b->L i=true->∀e∈b,L e=true
theorem KG(acc:List Nat) {L:Nat->Bool}(a:∀e,L e=true->∀j,(acc.getD e 0).testBit j=true->L j=true) :
 ∀(b:List Nat) (s:Nat),(∀e∈b,L e=true)->(∀j,s.testBit j=true->L j=true)->∀j,(b.foldl (λs e=>s ||| 2 ^ e ||| acc.getD e 0) s).testBit j=true->L j=true
 |[],s,_,c,j,h=>c j h
 |e::b,s,hb,c,j,h=>by
  simp only[List.foldl_cons]at h;refine KG acc a b _ (λx hx=>hb x (by grind)) (λk hk=>?_) j h
  grind
theorem zI{bs:List (List Nat)}{L:Nat->Bool}(g:Closed bs L):∀(k:Nat) (acc:List Nat),acc.length=k->(∀e,L e=true->∀j,(acc.getD e 0).testBit j=true->L j=true)->
 ∀e,L e=true->∀j,((bw acc (bs.drop k)).getD e 0).testBit j=true->L j=true:=by
 intro k;have main:∀(n k:Nat) (acc:List Nat),bs.length-k=n->acc.length=k->(∀e,L e=true->∀j,(acc.getD e 0).testBit j=true->L j=true)->
  ∀e,L e=true->∀j,((bw acc (bs.drop k)).getD e 0).testBit j=true->L j=true:=by
  intro n
  induction n with
  |zero=>
   intro k acc hn hl a e he j b;rw[uad (by omega)]at b;exact a e he j b
  |succ n i=>
   intro k acc hn hl a e he j b;have hk:k<bs.length:=by omega
   rw[Fab hk]at b;simp only[bw]at b;refine i (k+1) (acc++[CV acc bs[k]]) (by omega) (by grind) ?_ e he j b;intro x hx y c;rw[uac,List.getElem?_append]at c;split at c
   .exact a x hx y (by simp_all)
   .rename_i hlt;by_cases f:x=k
    .subst f;rw[hl,Nat.sub_self]at c;simp only[List.getElem?_cons_zero,Nac]at c;exact KG acc a _ 0 (λe' d=>g x _ (Maa hk) hx e' d) (λj h=>by grind) y c
    grind
 grind
theorem Kt{bs:List (List Nat)}{L:Nat->Bool}(a:Closed bs L) {e j:Nat}(he:L e=true) (b:((gx bs).getD e 0).testBit j=true):L j=true:=by
 have:=zI a 0 [] rfl (λe _ j h=>by grind) e he j;simp only[List.drop_zero]at this;exact this b
open Go.RowKit (Below)
theorem lS{m:List Ent}{d:D}{n:Nat}(h:Yc m d=some n) {id:Nat}(ht:Xd d=some id):∃e,m[id]?=some e:=by
 unfold Yc at h
 grind[Xd]
theorem KD{s:St}{i:I}{d:D}{m1:List Ent}(he:fa s i=some (d,m1)) {x:Operand}{id:Nat}(hx:i.Q4=some x) (ht:Xd (s.ev x)=some id):∃e,s.m[id]?=some e:=by
 cases i<;>simp only[I.Q4,reduceCtorEq,wab]at hx<;>subst hx
 .grind[fa,Xd]
 all_goals grind[fa,Xd,lS,Paa]
section
variable (dst:Nat->Option Tmp) (dd:Nat->D) (xx:Nat->List Ent) (L:Nat->Bool)
def tS(t0:List D):Nat->List D
 |0=>t0
 |n+1=>if L n then(match dst n with|some y=>(tS t0 n).set y (dd n)|none=>tS t0 n)else tS t0 n
def mS(a:List Ent):Nat->List Ent
 |0=>a
 |n+1=>if L n then mS a n++xx n else mS a n
end
section
variable {dst:Nat->Option Tmp} {dd:Nat->D} {xx:Nat->List Ent} {L:Nat->Bool}
theorem ow(t0:List D):∀n,(tS dst dd L t0 n).length=t0.length
 |0=>rfl
 |n+1=>by
  simp only[tS];split
  .split
   .simp[ow t0 n]
   .exact ow t0 n
  .exact ow t0 n
theorem sX(t0:List D) (n y:Nat):(tS dst dd L t0 (n+1)).getD y .dead=if L n=true/\dst n=some y/\y<t0.length then dd n else(tS dst dd L t0 n).getD y .dead:=by
 simp only[tS];by_cases a:L n=true
 .rw[if_pos a]
  cases hd:dst n with
  |none=>simp
  |some z=>
   simp only;rw[uac,Qad];by_cases b:z=y
   .subst b;rw[if_pos rfl,ow]
    grind[ow]
   simp_all
 simp_all
theorem GN(t0:List D) {i y:Nat}:∀{q:Nat},i<=q->(∀j,j<q->dst j=some y->(L j=true↔j<i))->(tS dst dd L t0 q).getD y .dead=(tS dst dd (λ_=>true) t0 i).getD y .dead:=by
 have h1:∀n,n<=i->(∀j,j<n->dst j=some y->L j=true)->(tS dst dd L t0 n).getD y .dead=(tS dst dd (λ_=>true) t0 n).getD y .dead:=by
  intro n
  induction n with
  |zero=>intro _ _;rfl
  |succ n a=>
   grind[sX]
 intro q
 induction q with
 |zero=>simp_all
 |succ q a=>
  intro hi h;by_cases hq:i=q+1
  .simp_all
  .rw[sX,if_neg ?_]
   all_goals grind
theorem RC(a:List Ent):∀(q:Nat),(∀i j,i<j->j<q->xx i≠[]->xx j≠[]->L j=true->L i=true)->∃k,k<=q/\mS xx L a q=mS xx (λ_=>true) a k
 |0,_=>⟨0,dab _,rfl⟩
 |q+1,h=>by
  obtain⟨k,hk,he⟩:=RC a q λi j b hj=>h i j b (by omega);by_cases hx:xx q=[]
  .grind[mS]
  .by_cases hL:L q=true
   .refine⟨q+1,dab _,?_⟩;have hall:∀n,n<=q->mS xx L a n=mS xx (λ_=>true) a n:=by
     intro n
     induction n with
     |zero=>intro _;rfl
     |succ n ih=>
      grind[mS]
    simp_all[mS]
   grind[mS]
theorem kF(a:List Ent) {k i:Nat}(h:k<=i):∃r,mS xx (λ_=>true) a i=mS xx (λ_=>true) a k++r:=by
 induction i with
 |zero=>simp_all
 |succ i ih=>
  by_cases hk:k=i+1
  .simp_all
  grind[mS]
theorem dN(a:List Ent) {i:Nat}:∀{q:Nat},i<=q->(∀j,j<q->xx j≠[]->(L j=true↔j<i))->mS xx L a q=mS xx (λ_=>true) a i:=by
 have h1:∀n,n<=i->(∀j,j<n->xx j≠[]->L j=true)->mS xx L a n=mS xx (λ_=>true) a n:=by
  intro n
  induction n with
  |zero=>intro _ _;rfl
  |succ n b=>
   grind[mS]
 intro q
 induction q with
 |zero=>simp_all
 |succ q b=>
  grind[mS]
theorem NQ(t0:List D) {a:Nat->Bool}{i:Nat}(hi:L i=false) (hL':∀j,a j=(L j || j==i)):∀{q:Nat},i<q->(∀j,i<j->j<q->∀y,dst i=some y->dst j=some y->L j=false)->
 tS dst dd a t0 q=(match dst i with|some y=>(tS dst dd L t0 q).set y (dd i)|none=>tS dst dd L t0 q):=by
 have hlow:∀n,n<=i->tS dst dd a t0 n=tS dst dd L t0 n:=by
  intro n
  induction n with
  |zero=>intro _;rfl
  |succ n c=>
   grind[tS]
 intro q
 induction q with
 |zero=>omega
 |succ q c=>
  intro hq hw;by_cases hqi:q=i
  .simp_all[tS]
  .have d:a q=L q:=by simp_all
   have b:=c (by omega) λj e hjq=>hw j e (by omega);simp only[tS,d,b]
   cases hdi:dst i with
   |none=>simp
   |some y=>
    simp only;split
    .rename_i hLq;split
     .rename_i z hz;have hne:y≠z:=by
       grind
      grind[Sae]
     .rfl
    .rfl
theorem vQ(b:List Ent) {a:Nat->Bool}{i:Nat}(hi:L i=false) (hL':∀j,a j=(L j || j==i)):∀{q:Nat},i<q->(∀j,i<j->j<q->xx i≠[]->xx j≠[]->L j=false)->
 mS xx a b q=mS xx L b q++xx i:=by
 have hlow:∀n,n<=i->mS xx a b n=mS xx L b n:=by
  intro n
  induction n with
  |zero=>intro _;rfl
  |succ n d=>
   grind[mS]
 intro q
 induction q with
 |zero=>omega
 |succ q d=>
  intro hq hw;by_cases hqi:q=i
  .simp_all[mS]
  .have e:a q=L q:=by simp_all
   have c:=d (by omega) λj f hjq=>hw j f (by omega);simp only[mS,e,c];split
   .rename_i hLq;by_cases hxi:xx i=[]
    all_goals grind
   .rfl
end
def HA(P:Program) (r:RI) (s:St) (d:D) (x:List Ent):Prop:=
 match r with
 |.op _ g i=>((gate s g=some none\/∃c,gate s g=some (some (c,c)))/\fa s i=some (d,s.m++x))\/((∃c b,gate s g=some (some (c,b))/\c≠b)/\d=.v undef/\x=[])
 |.call _ g f args=>∃k first caps,s.cv f=.fn k first caps/\x=[]/\
  (((gate s g=some none\/∃c,gate s g=some (some (c,c)))/\∀m,CallT P k (first++args.map s.ev++caps) m λd' m'=>d'=d/\m'=m)\/((∃c b,gate s g=some (some (c,b))/\c≠b)/\d=.v undef))
def after(s:St) (r:RI) (d:D) (x:List Ent):St:=({ s with m:=s.m++x }:St).put r.dst d
def IL(P:Program):List RI->St->List (D×List Ent)->St->Prop
 |[],s,os,s'=>os=[]/\s'=s
 |r::l,s,os,s'=>∃d x os',os=(d,x)::os'/\HA P r s d x/\IL P l (after s r d x) os' s'
section
variable {P:Program}
theorem IL.length:∀{l:List RI}{s s':St}{os:List (D×List Ent)},IL P l s os s'->os.length=l.length
 |[],s,s',os,h=>by simp[h.1]
 |r::l,s,s',os,h=>by
  obtain⟨d,x,os',rfl,_,h⟩:=h;simp[IL.length h]
def GA(rl:List RI) (os:List (D×List Ent)) (s:St) (L:Nat->Bool) (n:Nat):St:=
 ⟨tS (λi=>(rl.getD i (.op none none (.mv (.const undef)))).dst) (λi=>(os.getD i (.dead,[])).1) L s.t n,mS (λi=>(os.getD i (.dead,[])).2) L s.m n⟩
theorem YJ(s:St) (r:RI) (d:D) (x:List Ent):(after s r d x).t=(match r.dst with|some y=>s.t.set y d|none=>s.t)/\(after s r d x).m=s.m++x:=by
 unfold after St.put
 grind
theorem IL.get{rl:List RI}{os:List (D×List Ent)}{s0:St}:∀{l:List RI}{k:Nat}{s':St}{os':List (D×List Ent)},l=(rl.drop k).take l.length->os'=(os.drop k).take os'.length->IL P l (GA rl os s0 (λ_=>true) k) os' s'->
 (∀i,i<l.length->HA P (rl.getD (k+i) (.op none none (.mv (.const undef)))) (GA rl os s0 (λ_=>true) (k+i)) (os.getD (k+i) (.dead,[])).1 (os.getD (k+i) (.dead,[])).2)/\s'=GA rl os s0 (λ_=>true) (k+l.length)
 |[],k,s',os',_,_,h=>⟨λi hi=>by grind,by simpa using h.2⟩
 |r::l,k,s',os',c,h2,h=>by
  obtain⟨d,x,a,rfl,hs,h⟩:=h;have hr:rl[k]?=some r:=by
   have:=congrArg (λl=>l[0]?) c
   grind
  have ho:os[k]?=some (d,x):=by
   have:=congrArg (λl=>l[0]?) h2
   grind
  have hr':rl.getD k (.op none none (.mv (.const undef)))=r:=by simp_all
  have ho':os.getD k (.dead,[])=(d,x):=by simp_all
  have b:after (GA rl os s0 (λ_=>true) k) r d x=GA rl os s0 (λ_=>true) (k+1):=by
   have ha:=YJ (GA rl os s0 (λ_=>true) k) r d x;have:after (GA rl os s0 (λ_=>true) k) r d x=⟨(after (GA rl os s0 (λ_=>true) k) r d x).t,(after (GA rl os s0 (λ_=>true) k) r d x).m⟩:=rfl
   simp_all[GA,tS,mS]
  rw[b]at h;have t1:l=(rl.drop (k+1)).take l.length:=by
   grind[Fab]
  have t2:a=(os.drop (k+1)).take a.length:=by
   grind[Fab]
  obtain⟨g1,g2⟩:=IL.get t1 t2 h;refine⟨λi hi=>?_,by grind⟩
  cases i with
  |zero=>grind
  |succ i=>
   have:=g1 i (by grind)
   grind
theorem filter_lt{L c:Nat->Bool}{i:Nat}(hi:L i=false) (d:∀j,c j=(L j || j==i)):∀{l:List Nat},i∈l->(l.filter λj=>!c j).length<(l.filter λj=>!L j).length
 |[],h=>by cases h
 |a::l,h=>by
  have mono:∀l:List Nat,(l.filter λj=>!c j).length<=(l.filter λj=>!L j).length:=by
   intro l
   induction l with
   |nil=>simp
   |cons b l f=>
    grind
  by_cases ha:a=i
  .grind
  .have e:i∈l:=by
    grind
   have f:=filter_lt hi d e
   grind
theorem Mu{ops:Array Oper}:∀{l:List Oper}{rl:List RI},sg P ops l=some rl->rl.length=l.length/\∀(i:Nat) o,l[i]?=some o->∃r,rl[i]?=some r/\Eo P ops o=some r
 |[],rl,h=>by grind[sg]
 |o::l,rl,h=>by
  simp only[sg]at h;split at h
  .rename_i r rs h1 h2;injection h with h;subst h;obtain⟨g1,g2⟩:=Mu h2
   grind
  .cases h
theorem tw{ops:Array Oper}{o:Oper}{r:RI}(h:Eo P ops o=some r):r.dst=o.dst:=by
 unfold Eo at h;split at h
 .cases h
 .split at h
  .injection h with h;subst h;rfl
  .simp only[Paa]at h;obtain⟨i,-,rfl⟩:=h;rfl
theorem V7{ops:Array Oper}{o:Oper}{r:RI}(hc:Eo P ops o=some r) {sc s:St}{d:D}{x:List Ent}(hf:HA P r sc d x) (ht:∀t∈r.reads,s.t.getD t .dead=sc.t.getD t .dead)
 (hm:r.cls=2->s.m=sc.m) (V:∀(id:Nat),(∃e,sc.m[id]?=some e)->id<s.m.length->s.m[id]?=sc.m[id]?) (F:r.cls<=2)
 {G:Gh} {w:World} {a:Act} (hr:Rel G w a s) {i:Nat} (hi:ops[i]?=some o) {Q:Exit->Act->World->Prop} {K:Act->World->Prop}
 (T:∀G' w' a',Rel G' w' a' (after s r d x)->Step G w s.m G' w' (s.m++x)->K a' w'):wpOp P ops Q i K a w:=by
 have hdst:=tw hc;unfold wpOp;simp only[hi];unfold Eo at hc;split at hc
 .grind
 .rename_i g hg;obtain⟨hgate1,hgate2⟩:=sn hr hg;have hgt:gate s g=gate sc g:=qG (λt h=>ht t (by
   split at hc
   .grind[RI.reads]
   .simp only[Paa]at hc;obtain⟨i,-,rfl⟩:=hc
    grind[RI.reads]))
  have S:(gate sc g=some none\/∃c,gate sc g=some (some (c,c)))->Region.wanted o (yielded ops a.tmps)=true:=by
   grind
  have woff:(∃c b,gate sc g=some (some (c,b))/\c≠b)->Region.wanted o (yielded ops a.tmps)=false:=by
   grind
  have skip:d=.v undef->x=[]->K (a.put o.dst undef) w:=by
   rintro rfl rfl;refine T G w _ ?_ (by grind[Step.refl])
   simp_all[after,RB]
  split at hc
  .rename_i f args ho;injection hc with hc;subst hc;obtain⟨k,first,caps,hfe,rfl,hf⟩:=hf;have M:s.cv f=.fn k first caps:=by grind[RI.reads,NF]
   have z:args.map s.ev=args.map sc.ev:=map_congr (λt h=>ht t (by grind[RI.reads]));rcases hf with⟨B,A⟩|⟨N,hd⟩
   .rw[if_pos (S B)];refine .inl ?_;obtain⟨⟨fn,e1,e2,e3⟩,E⟩:=A s.m;obtain⟨fs,cs,O,X,Y⟩:=Fy hr ho (pU M) e1 e2 e3;rw[←z]at E;have q:=E G w (fs++args.map a.eval++cs) ((X.append (Ny hr _)).append Y) hr.inv;unfold Oper.wp;rw[O,Oper.upon_enter];refine q.mono ?_;rintro e w' ⟨v,d',m',G',rfl,⟨rfl,rfl⟩,Z,U,C⟩;refine T G' w' _ ?_ (by simp_all);unfold after;rw[vab];exact(hr.step C.le U).put o.dst Z
   simp_all
  .rename_i hno;simp only[Paa]at hc;obtain⟨j,hj,rfl⟩:=hc;rcases hf with⟨B,H⟩|⟨N,hd,hx⟩
   .rw[if_pos (S B)];refine .inl ?_;have J:fa s j=some (d,s.m++x):=by
     simp only[RI.cls]at F hm;have R:∀t∈j.reads,s.t.getD t .dead=sc.t.getD t .dead:=λt h=>ht t (by grind[RI.reads]);by_cases h2:j.cls=2
     .grind[jG]
     .have h1:j.cls<=1:=by omega
      obtain⟨hxm,hres⟩:=Np (s:=sc) (s':=s) h1 R (λy id hy l=>by
       refine V id (KD H hy l) ?_;have p:=hr.ev y;have L:s.ev y=sc.ev y:=Ba (λt h=>R t (by
        cases j<;>simp only[I.Q4,reduceCtorEq,wab]at hy<;>subst hy<;>simp[I.reads,h]))
       rw[L]at p;have hn:=hr.inv.n;generalize sc.ev y=dy at *;cases dy<;>simp only[Xd,reduceCtorEq,wab]at l
       .subst l;simp only[VRel]at p;omega
       .subst l;simp only[VRel]at p;omega
       .subst l;simp only[VRel]at p;omega
       .subst l;simp only[VRel]at p;omega) H
      simp_all
    exact hr.ir (Iy hj hr J) λG' w' u W C=>T G' w' _ W C
   simp_all
end
open Go.RowKit (Below)
section
variable {P:Program}
theorem W1{ops:Array Oper}{Q:Exit->Act->World->Prop}{K:St->Prop}{o:Oper}{r:RI}{rs:List RI}{s:St}{G:Gh}{w:World}{a:Act}(h:Eo P ops o=some r) (p:Lj P (r::rs) K s) (hr:Rel G w a s)
 {i:Nat} (hi:ops[i]?=some o) {Kx:Act->World->Prop} (rest:∀{G':Gh} {w':World} {a':Act} {s':St},Lj P rs K s'->Rel G' w' a' s'->Step G w s.m G' w' s'.m->Kx a' w'):wpOp P ops Q i Kx a w:=by
 unfold wpOp;simp only[hi];unfold Eo at h;split at h
 .grind
 .rename_i g F;obtain⟨hgate1,hgate2⟩:=sn hr F;have doI:∀{i:I} {d:D} {m':List Ent},Zq P ops o o.op=some i->fa s i=some (d,m')->Lj P rs K ({ s with m:=m' }.put o.dst d)->o.wp P a w Kx Q:=by
   intro i d m' hi he b;exact hr.ir (Iy hi hr he) λG' w' u x n=>rest b x (by grind[cE])
  have skip:Lj P rs K (s.put o.dst (.v undef))->Kx (a.put o.dst undef) w:=λb=>rest b (RB hr o.dst) (by grind[cE,Step.refl]);split at h
  .rename_i f args ho;injection h with h;subst h;simp only[Lj]at p;split at p
   .rename_i k first caps q
    have doC:CallT P k (first++args.map s.ev++caps) s.m (λd m'=>Lj P rs K ({ s with m:=m' }.put o.dst d))->o.wp P a w Kx Q:=by
     rintro⟨⟨fn,B,C,E⟩,j⟩;obtain⟨fs,cs,l,y,z⟩:=Fy hr ho q B C E;have c:=j G w (fs++args.map a.eval++cs) ((y.append (Ny hr _)).append z) hr.inv;unfold Oper.wp;rw[l,Oper.upon_enter];refine c.mono ?_;rintro e w' ⟨v,d,m',G',rfl,b,A,t,n⟩;exact rest b ((hr.step n.le t).put o.dst A) (by grind[cE])
    grind
   grind
  .rename_i hno;simp only[Paa]at h;obtain⟨i,hi,rfl⟩:=h;simp only[Lj]at p
   grind
theorem lV{listed:Array Bool}{i j:Nat}(hi:i<listed.size) (d:Bool):(listed.setIfInBounds i true).getD j d=if j=i then true else listed.getD j d:=by
 simp only[aad,Array.getElem?_setIfInBounds]
 grind
theorem BD{ops:Array Oper}{i:Nat}{o:Oper}(h:ops[i]?=some o):(zb ops)[i]?=some ((o.after.toList.filter λe=>Region.binds .any e).map (·.on)):=by
 grind[zb]
structure TailFacts (bs:List (List Nat)) (rl:List RI) (q:Nat):Prop where
 len:bs.length=rl.length
 hq:q<=rl.length
 back:∀(i:Nat) b,bs[i]?=some b->∀e∈b,e<i
 tail:∀(i j:Nat),i<j->q<=j->j<rl.length->((gx bs).getD j 0).testBit i=true
theorem AL{bs:List (List Nat)}{rl:List RI}{cuts:List Nat}{q:Nat}(h:zL bs rl cuts q=true) :
 TailFacts bs rl q/\∀p∈cuts,∀(i j:Nat),i<p->p<=j->j<rl.length->((gx bs).getD j 0).testBit i=true:=by
 unfold zL at h;simp only[Vaa,beq_iff_eq,decide_eq_true_eq,Nab,Gac,Dad]at h;obtain⟨⟨⟨⟨h0,a⟩,h2⟩,h3⟩,h4⟩:=h;refine⟨⟨a,h2,?_,?_⟩,?_⟩
 .simp_all[yab]
 all_goals grind
structure DrawFacts (bs:List (List Nat)) (rl:List RI) (q:Nat):Prop extends TailFacts bs rl q where
 cls:∀(j:Nat) y,j<q->rl[j]?=some y->y.cls<=2
 apart:∀(i j:Nat) x y,i<j->j<q->rl[i]?=some x->rl[j]?=some y->Kz x y=true->((gx bs).getD j 0).testBit i=true
theorem Et{bs:List (List Nat)}{rl:List RI}{q:Nat}(h:BC bs rl q=true):DrawFacts bs rl q:=by
 unfold BC at h;simp only[Vaa,beq_iff_eq,decide_eq_true_eq,Nab,Gac]at h;obtain⟨⟨⟨a,h2⟩,h3⟩,h4⟩:=h;have hy:∀(j:Nat) y,rl[j]?=some y->j<rl.length:=λj y b=>(yab.1 b).1;refine⟨⟨a,h2,?_,?_⟩,?_,?_⟩
 rotate_left
 .grind
 rotate_right
 .simp_all[yab]
 all_goals grind
section
variable {ops:Array Oper} {Q:Exit->Act->World->Prop} {K:St->Prop} {rl:List RI} {q:Nat}
def ud(listed:Array Bool):Nat->Bool:=λi=>listed.getD i false
theorem Yu(hf:TailFacts (zb ops) rl q) {listed:Array Bool}(hsz:listed.size=ops.size) (k:Closed (zb ops) (ud listed)) {i:Nat}(hi:i∈Region.ready .any ops listed) :
 i<ops.size/\ud listed i=false/\(∀j,j≠i->((gx (zb ops)).getD i 0).testBit j=true->ud listed j=true)/\Closed (zb ops) (ud (listed.setIfInBounds i true))/\
 (∀j,ud (listed.setIfInBounds i true) j=(ud listed j || j==i)):=by
 obtain⟨h0,o,ho,g⟩:=mem_ready.1 hi;have l:i<ops.size:=(Array.getElem?_eq_some_iff.1 ho).1;have h:ud listed i=false:=by
  grind[ud]
 have f:∀j,ud (listed.setIfInBounds i true) j=(ud listed j || j==i):=by
  intro j;unfold ud;rw[lV (by omega)]
  grind
 have d:Closed (zb ops) (ud (listed.setIfInBounds i true)):=by
  intro j b hb c e he;rw[f]at c⊢;simp only[Dad,beq_iff_eq]at c⊢;rcases c with c|c
  .exact .inl (k j b hb c e he)
  .subst c;have a:=BD ho;rw[hb]at a;injection a with a;subst a;simp only[List.mem_map,List.mem_filter,Array.mem_toList_iff]at he;obtain⟨ed,⟨m,h2⟩,rfl⟩:=he;exact .inl (g ed m h2)
 refine⟨l,h,λj hne c=>?_,d,f⟩;have:=Kt d (e:=i) (by simp_all) c
 simp_all
theorem my(hf:TailFacts (zb ops) rl q) {listed:Array Bool}(hsz:listed.size=ops.size) (hno:Region.ready .any ops listed=[]):∀i,i<ops.size->ud listed i=true:=by
 intro i
 induction i using tad with
 |_ i c=>
  intro hi;rcases hb:ud listed i with _|_
  .exfalso;have:i∈Region.ready .any ops listed:=by
    refine mem_ready.2 ⟨?_,ops[i],Zab hi,λe he hbi=>?_⟩
    .grind[ud]
    .have a:=BD (Zab hi);have b:=hf.back i _ a e.on (by
      grind)
     exact c e.on b (by omega)
   simp_all
  .rfl
theorem Sy(hc:sg P ops ops.toList=some rl) (hf:TailFacts (zb ops) rl q) :
 ∀(n r:Nat) (fuel:Nat) (listed:Array Bool) (s:St) (G:Gh) (w:World) (a:Act),ops.size-r=n->n<=fuel->q<=r->r<=ops.size->listed.size=ops.size->(∀i,ud listed i=decide (i<r))->
  Lj P (rl.drop r) K s->Rel G w a s->(∀s' G' w' a',K s'->Rel G' w' a' s'->Step G w s.m G' w' s'.m->Q .normal a' w')->wpAny P .any ops Q fuel listed a w:=by
 obtain⟨x,v⟩:=Mu hc;simp only[Jac]at x;have c:∀(r:Nat) (L:Nat->Bool),(∀i,L i=decide (i<r))->Closed (zb ops) L:=by
  intro r L u i b hb hi e he;have:=hf.back i b hb e he
  grind
 intro n
 induction n with
 |zero=>
  intro r fuel listed s G w a hn k hq hr f u t d hQ;have hrn:r=ops.size:=by omega
  have o:Region.ready .any ops listed=[]:=by
   cases hre:Region.ready .any ops listed with
   |nil=>rfl
   |cons i l=>
    obtain⟨M,h2,-⟩:=Yu hf f (c r _ u) (i:=i) (by simp_all)
    simp_all
  rw[uad (by omega)]at t;have g:=hQ s G w a t d (Step.refl _ _ _)
  cases fuel with
  |zero=>exact⟨o,g⟩
  |succ fuel=>exact⟨λ_=>g,λi hi=>by simp_all⟩
 |succ n O=>
  intro r fuel listed s G w a hn k hq hr f u t d hQ
  cases fuel with
  |zero=>omega
  |succ fuel=>
   have z:r<ops.size:=by omega
   refine⟨λF=>?_,λi hi=>?_⟩
   .have:=my hf f F r z
    simp_all
   .obtain⟨M,h2,N,h4,h5⟩:=Yu hf f (c r _ u) hi;have E:i=r:=by
     rw[u]at h2;simp at h2;rcases sac r i with h|h
     .have:=N r (by omega) (hf.tail r i h (by omega) (by omega))
      simp_all
     omega
    subst E;have ho:ops[i]?=some ops[i]:=Zab M;obtain⟨T,hri,D⟩:=v i ops[i] (by simp);have y:rl.drop i=T::rl.drop (i+1):=by
     grind[Fab]
    rw[y]at t;refine W1 D t d ho λC p H=>?_;refine O (i+1) fuel (listed.setIfInBounds i true) _ _ _ _ (by omega) (by omega) (by omega) (by omega) (by simp[f]) (λj=>?_) C p λI A J B R S k3=>hQ I A J B R S (H.trans k3)
    grind
theorem QH{dst:Nat->Option Tmp}{dd:Nat->D}{L a:Nat->Bool}(t0:List D):∀n,(∀j,j<n->L j=a j)->tS dst dd L t0 n=tS dst dd a t0 n
 |0,_=>rfl
 |n+1,h=>by simp only[tS,h n (by omega),QH t0 n λj hj=>h j (by omega)]
theorem IG{xx:Nat->List Ent}{L b:Nat->Bool}(a:List Ent):∀n,(∀j,j<n->L j=b j)->mS xx L a n=mS xx b a n
 |0,_=>rfl
 |n+1,h=>by simp only[mS,h n (by omega),IG a n λj hj=>h j (by omega)]
theorem NJ{os:List (D×List Ent)}{s0:St}{L a:Nat->Bool}(n:Nat) (h:∀j,j<n->L j=a j):GA rl os s0 L n=GA rl os s0 a n:=by
 grind[GA,QH,IG]
theorem count_tail(q:Nat):∀n,((Zaa n).filter λj=>!decide (j<q)).length=n-q
 |0=>by simp
 |n+1=>by
  rw[List.range_succ,List.filter_append,uab,count_tail q n]
  grind
theorem getD_some{l:List RI}{i:Nat}(h:i<l.length) (d:RI):l[i]?=some (l.getD i d):=by
 simp_all
theorem DR(hc:sg P ops ops.toList=some rl) (hf:DrawFacts (zb ops) rl q) {os:List (D×List Ent)}{s0:St}
 (J:∀i,i<q->HA P (rl.getD i (.op none none (.mv (.const undef)))) (GA rl os s0 (λ_=>true) i) (os.getD i (.dead,[])).1 (os.getD i (.dead,[])).2)
 (C:∀i,i<q->(os.getD i (.dead,[])).2≠[]->(rl.getD i (.op none none (.mv (.const undef)))).cls=2)
 (hT:Lj P (rl.drop q) K (GA rl os s0 (λ_=>true) q)) :
 ∀(fuel:Nat) (listed:Array Bool) (G:Gh) (w:World) (a:Act),((Zaa ops.size).filter λj=>!ud listed j).length<=fuel->listed.size=ops.size->Closed (zb ops) (ud listed)->
  (∀j,q<=j->ud listed j=false)->Rel G w a (GA rl os s0 (ud listed) q)->
  (∀s' G' w' a',K s'->Rel G' w' a' s'->Step G w (GA rl os s0 (ud listed) q).m G' w' s'.m->Q .normal a' w')->wpAny P .any ops Q fuel listed a w:=by
 obtain⟨O,M⟩:=Mu hc;simp only[Jac]at O;have hq:=hf.hq;intro fuel
 induction fuel with
 |zero=>
  intro listed G w a d u v F A hQ;have H:∀i,i<ops.size->ud listed i=true:=by
   simp_all
  have hqn:q=ops.size:=by
   rcases sac q ops.size with h|h
   all_goals grind
  have E:GA rl os s0 (ud listed) q=GA rl os s0 (λ_=>true) q:=NJ q λj c=>H j (by omega);refine Sy hc hf.toTailFacts 0 q 0 listed _ G w a (by omega) (dab _) (dab _) (by omega) u (λi=>?_) hT (by simp_all) (by grind)
  grind
 |succ fuel ih=>
  intro listed G w a d u v F A hQ;by_cases b:∀j,j<q->ud listed j=true
  ·
    have E:GA rl os s0 (ud listed) q=GA rl os s0 (λ_=>true) q:=NJ q λj c=>b j c;have hL:∀i,ud listed i=decide (i<q):=λi=>by
     grind
    have hcnt:=count_tail q ops.size;simp only[hL]at d;exact Sy hc hf.toTailFacts (ops.size-q) q (fuel+1) listed _ G w a rfl (by omega) (dab _) (by omega) u hL hT (by simp_all) (by grind)
  .refine⟨λhno=>(b λj c=>my hf.toTailFacts u hno j (by omega)).elim,λi hi=>?_⟩;obtain⟨h1,h2,h3,h4,W⟩:=Yu hf.toTailFacts u v hi;have o:i<q:=by
    rcases sac i q with h|h
    .exact h
    .exact(b λj c=>h3 j (by omega) (hf.tail j i (by omega) h (by omega))).elim
   have hri:=getD_some (l:=rl) (i:=i) (by omega) (.op none none (.mv (.const undef)));obtain⟨r,hr,hco⟩:=M i ops[i] (by simp);have hrr:rl.getD i (.op none none (.mv (.const undef)))=r:=by simp_all
   have early:∀j x,j<i->rl[j]?=some x->Kz x r=true->ud listed j=true:=λj x c hx f=>h3 j (by omega) (hf.apart j i x r c o hx hr f);have late:∀j y,i<j->j<q->rl[j]?=some y->Kz r y=true->ud listed j=false:=by
    intro j y c hjq hy f;rcases hb:ud listed j with _|_
    .rfl
    .have:=Kt v hb (hf.apart i j r y c hjq hr hy f)
     simp_all
   have n:∀j,j<q->rl[j]?=some (rl.getD j (.op none none (.mv (.const undef)))):=λj c=>getD_some (by omega) _;have hF:=J i o;rw[hrr]at hF;have B:r.cls<=2:=hf.cls i r o hr;have R:∀j,j<q->(os.getD j (.dead,[])).2≠[]->(rl.getD j (.op none none (.mv (.const undef)))).cls=2:=C;have g:∀x y:RI,x.cls=2->y.cls=2->Kz x y=true:=λx y hx hy=>by grind[Kz]
   refine V7 hco hF (s:=GA rl os s0 (ud listed) q) ?_ ?_ ?_ B A (Zab h1) ?_
   ·
     intro y hy;refine GN s0.t (by omega) λj c hd=>?_
     grind[Kz]
   ·
     intro hcls;refine dN s0.m (by omega) λj c hx=>?_
     grind
   ·
     rintro id ⟨e,he⟩ N;obtain⟨k,hk,S⟩:=RC (xx:=λi=>(os.getD i (.dead,[])).2) (L:=ud listed) s0.m q λi1 j1 hij c hx1 hx2 X=>
      Kt v X (hf.apart i1 j1 _ _ hij c (n i1 (by omega)) (n j1 c) (g _ _ (R i1 (by omega) hx1) (R j1 c hx2)))
     simp only[GA]at he N⊢;rw[S]at N⊢;rcases Wae i k with h|h
     .obtain⟨rr,T⟩:=kF (xx:=λi=>(os.getD i (.dead,[])).2) s0.m h
      grind
     .obtain⟨rr,T⟩:=kF (xx:=λi=>(os.getD i (.dead,[])).2) s0.m h
      grind
   ·
     intro G' w' a' p hs';have E:after (GA rl os s0 (ud listed) q) r (os.getD i (.dead,[])).1 (os.getD i (.dead,[])).2=GA rl os s0 (ud (listed.setIfInBounds i true)) q:=by
      obtain⟨Y,Z⟩:=YJ (GA rl os s0 (ud listed) q) r (os.getD i (.dead,[])).1 (os.getD i (.dead,[])).2;have I:∀z:St,z=⟨z.t,z.m⟩:=λz=>rfl;rw[I (after _ _ _ _),Y,Z];simp only[GA,St.mk.injEq];constructor
      .rw[NQ s0.t h2 W o ?_]
       all_goals grind[Kz]
      .rw[vQ s0.m h2 W o ?_]
       grind
     rw[E]at p;refine ih (listed.setIfInBounds i true) G' w' a' ?_ (by grind) h4 ?_ p ?_
     .have:=filter_lt h2 W (l:=Zaa ops.size) (by grind);omega
     .grind
     .intro s'' U w'' V k1 k2 k3;refine hQ s'' U w'' V k1 k2 (hs'.trans ?_)
      grind[YJ]
theorem AK{r:RI}{s:St}{d:D}{x:List Ent}(h:HA P r s d x) (a:r.cls<=2) (hx:x≠[]):r.cls=2:=by
 cases r with
 |call dst g f args=>
  obtain⟨_,_,_,_,h,_⟩:=h
  simp_all
 |op dst g i=>
  rcases h with⟨-,h⟩|⟨-,-,h⟩
  .simp only[RI.cls]at a⊢;rcases sac i.cls 2 with h2|h2
   .obtain⟨hm,-⟩:=Np (s:=s) (s':=s) (by omega) (λ_ _=>rfl) (λ_ _ _ _=>rfl) h
    simp_all
   omega
  simp_all
theorem uO(Ho:P.follows .mixedOrders=true) (hc:sg P ops ops.toList=some rl) (g:BC (zb ops) rl q=true) {s s1:St}{os:List (D×List Ent)}(p:IL P (rl.take q) s os s1) (r:Lj P (rl.drop q) K s1)
 {id:Nat} {G:Gh} {w:World} {a:Act} (hr:Rel G w a s) (hQ:∀s' G' w' a',K s'->Rel G' w' a' s'->Step G w s.m G' w' s'.m->Q .normal a' w'):(Code.region id ops true).wp P Q a w:=by
 have hf:=Et g;have c:(rl.take q).length=q:=by rw[mad];have:=hf.hq;omega
 have e:=p.length;rw[c]at e;have o:GA rl os s (λ_=>true) 0=s:=rfl;obtain⟨g1,g2⟩:=IL.get (rl:=rl) (os:=os) (s0:=s) (k:=0) (l:=rl.take q) (os':=os) (s':=s1) (by simp) (by simp) (by rw[o];omega);simp only[c,eac]at g1 g2;subst g2;have f:∀j,ud (jac ops.size false) j=false:=by
  intro j;unfold ud;simp only[aad,Nad]
  grind
 have d:GA rl os s (ud (jac ops.size false)) q=s:=by
  have ht:∀n,tS (λi=>(rl.getD i (.op none none (.mv (.const undef)))).dst) (λi=>(os.getD i (.dead,[])).1) (ud (jac ops.size false)) s.t n=s.t:=by
   intro n
   induction n with
   |zero=>rfl
   |succ n u=>simp_all[tS]
  have hm:∀n,mS (λi=>(os.getD i (.dead,[])).2) (ud (jac ops.size false)) s.m n=s.m:=by
   intro n
   induction n with
   |zero=>rfl
   |succ n u=>simp_all[mS]
  grind[GA]
 refine wp_region_any Ho ?_;have h:=Same.drew w;refine DR hc hf g1 (λi hi hx=>AK (g1 i hi) (hf.cls i _ hi (getD_some (by grind) _)) hx) r ops.size _ G _ a ?_ (by simp) ?_ (λj _=>f j) ?_ ?_
 .grind
 .intro i b _ hi
  simp_all
 .rw[d];exact⟨hr.t.mono (h.le G),h.inv hr.inv,hr.defers⟩
 .intro s' G' w' a' v x k3;rw[d]at k3;exact hQ s' G' w' a' v x ((h.step G s.m).trans k3)
end
end
section
variable {P:Program} {N:Nat}
def HL(P:Program):Nat->List RI->(St->Prop)->St->Prop
 |0,l,K,s=>Lj P l K s
 |_+1,[],_,_=>False
 |q+1,.op dst g i::l,K,s=>
  match gate s g with
  |none=>False
  |some none=>∃d m',fa s i=some (d,m')/\HL P q l K ({ s with m:=m' }.put dst d)
  |some (some (c,b))=>(c=b->∃d m',fa s i=some (d,m')/\HL P q l K ({ s with m:=m' }.put dst d))/\(c≠b->HL P q l K (s.put dst (.v undef)))
 |q+1,.call dst g f args::l,K,s=>
  match s.cv f with
  |.fn k first caps=>
   match gate s g with
   |none=>False
   |some none=>∃d,(∀m,CallT P k (first++args.map s.ev++caps) m λd' m'=>d'=d/\m'=m)/\HL P q l K (s.put dst d)
   |some (some (c,b))=>(c=b->∃d,(∀m,CallT P k (first++args.map s.ev++caps) m λd' m'=>d'=d/\m'=m)/\HL P q l K (s.put dst d))/\(c≠b->HL P q l K (s.put dst (.v undef)))
  |_=>False
section
variable {ops:Array Oper} {Q:Exit->Act->World->Prop} {K:St->Prop} {rl:List RI} {q:Nat}
end
theorem Ry:∀{q:Nat}{l:List RI}{K:St->Prop}{s:St},HL P q l K s->(∀(j:Nat) y,j<q->l[j]?=some y->y.cls<=2)->∃os s1,IL P (l.take q) s os s1/\Lj P (l.drop q) K s1
 |0,l,K,s,h,_=>⟨[],s,by simp[IL],by simpa [HL] using h⟩
 |q+1,[],K,s,h,_=>by simp[HL]at h
 |q+1,.op dst g i::l,K,s,h,hc=>by
  have hci:i.cls<=2:=hc 0 _ (by omega) rfl;have o:∀(j:Nat) y,j<q->l[j]?=some y->y.cls<=2:=λj y u w=>hc (j+1) y (by omega) (by simp_all);have ext:∀{d:D} {m':List Ent},fa s i=some (d,m')->∃x,m'=s.m++x:=λ{d m'} he=>by
   rcases sac i.cls 2 with h2|h2
   .exact⟨[],by rw[vab];exact(Np (s:=s) (s':=s) (by omega) (λ_ _=>rfl) (λ_ _ _ _=>rfl) he).1⟩
   .obtain⟨-,e,h⟩:=jG (s:=s) (s':=s) (by omega) (λ_ _=>rfl) rfl he
    simp_all
  have on:∀{d:D} {m':List Ent},fa s i=some (d,m')->(gate s g=some none\/∃c,gate s g=some (some (c,c)))->HL P q l K ({ s with m:=m' }.put dst d)->
   ∃os s1,IL P ((RI.op dst g i::l).take (q+1)) s os s1/\Lj P ((RI.op dst g i::l).drop (q+1)) K s1:=by
   intro d m' he p r;obtain⟨x,rfl⟩:=ext he;obtain⟨os,s1,t,h2⟩:=Ry r o;exact⟨(d,x)::os,s1,by simp only[Mab,IL];exact⟨d,x,os,rfl,.inl ⟨p,he⟩,t⟩,by simp_all⟩
  simp only[HL]at h;split at h
  .simp_all
  .grind
  .rename_i c b p;by_cases n:c=b
   .subst n;obtain⟨d,m',he,r⟩:=h.1 rfl
    simp_all
   .obtain⟨os,s1,t,h2⟩:=Ry (h.2 n) o;refine⟨(.v undef,[])::os,s1,?_,by simp_all⟩;simp only[Mab,IL];refine⟨_,_,os,rfl,.inr ⟨⟨c,b,p,n⟩,rfl,rfl⟩,?_⟩;have:after s (.op dst g i) (.v undef) []=s.put dst (.v undef):=by unfold after;rw[vab];rfl
    simp_all
 |q+1,.call dst g f args::l,K,s,h,hc=>by
  have o:∀(j:Nat) y,j<q->l[j]?=some y->y.cls<=2:=λj y u w=>hc (j+1) y (by omega) (by simp_all);have haf:∀d,after s (.call dst g f args) d []=s.put dst d:=λd=>by unfold after;rw[vab];rfl
  simp only[HL]at h;split at h
  .rename_i k first caps hf
   split at h
   .simp_all
   .rename_i p;obtain⟨d,a,r⟩:=h;obtain⟨os,s1,t,h2⟩:=Ry r o;refine⟨(d,[])::os,s1,?_,by simp_all⟩;simp only[Mab,IL];exact⟨d,[],os,rfl,⟨k,first,caps,hf,rfl,.inl ⟨.inl p,a⟩⟩,by simp_all⟩
   .rename_i c b p;by_cases n:c=b
    .subst n;obtain⟨d,a,r⟩:=h.1 rfl;obtain⟨os,s1,t,h2⟩:=Ry r o;refine⟨(d,[])::os,s1,?_,by simp_all⟩;simp only[Mab,IL];exact⟨d,[],os,rfl,⟨k,first,caps,hf,rfl,.inl ⟨.inr ⟨c,p⟩,a⟩⟩,by simp_all⟩
    .obtain⟨os,s1,t,h2⟩:=Ry (h.2 n) o;refine⟨(.v undef,[])::os,s1,?_,by simp_all⟩;simp only[Mab,IL];exact⟨_,[],os,rfl,⟨k,first,caps,hf,rfl,.inr ⟨⟨c,b,p,n⟩,rfl⟩⟩,by simp_all⟩
  simp_all
theorem T.draw{q:Nat}{l:List RI}{K:Exit->St->Prop}{s:St}(hm:P.follows .mixedOrders=true) (h:HL P q l (K .normal) s):T P N (.draw q l) K s:=by
 intro code hc G w a hN hr;obtain⟨id,ops,rfl,c,b⟩:=xC hc;obtain⟨os,s1,d,h2⟩:=Ry h (Et b).cls;exact uO hm c b d h2 hr λs' G' w' a' e f k3=>⟨s',G',e,f,k3.EX hN⟩
end
section
variable (ww:Nat->Option (Nat×Ent)) (L:Nat->Bool)
def sS(m:List Ent):Nat->List Ent
 |0=>m
 |n+1=>if L n then(match ww n with|some (id,e)=>(sS m n).set id e|none=>sS m n)else sS m n
def jy(id:Nat):Nat->Option Ent
 |0=>none
 |n+1=>if L n then(match ww n with|some (j,e)=>if j=id then some e else jy id n|none=>jy id n)else jy id n
end
section
variable {ww:Nat->Option (Nat×Ent)} {L:Nat->Bool}
theorem vo(m:List Ent):∀n,(sS ww L m n).length=m.length
 |0=>rfl
 |n+1=>by
  simp only[sS]
  repeat' split
  all_goals simp[vo m n]
theorem HH(m:List Ent) (id:Nat):∀n,id<m.length->(sS ww L m n)[id]?=(match jy ww L id n with|some e=>some e|none=>m[id]?)
 |0,h=>rfl
 |n+1,h=>by
  simp only[sS,jy];split
  .split
   .rename_i j e hw;rw[Qad];by_cases a:j=id
    .subst a;rw[if_pos rfl,if_pos rfl,if_pos (by grind[vo])]
    .rw[if_neg a,if_neg a];exact HH m id n h
   .exact HH m id n h
  .exact HH m id n h
theorem WO{id i:Nat}:∀{q:Nat},i<=q->(∀j,j<q->∀e,ww j=some (id,e)->(L j=true↔j<i))->jy ww L id q=jy ww (λ_=>true) id i:=by
 have h1:∀n,n<=i->(∀j,j<n->∀e,ww j=some (id,e)->L j=true)->jy ww L id n=jy ww (λ_=>true) id n:=by
  intro n
  induction n with
  |zero=>intro _ _;rfl
  |succ n a=>
   grind[jy]
 intro q
 induction q with
 |zero=>
  simp_all
 |succ q a=>
  grind[jy]
theorem uP(m x:List Ent):∀n,(∀j,j<n->L j=true->∀id e,ww j=some (id,e)->id<m.length)->sS ww L (m++x) n=sS ww L m n++x
 |0,_=>rfl
 |n+1,h=>by
  have ih:=uP m x n λj hj=>h j (by omega);simp only[sS];split
  .rename_i hL;split
   all_goals grind[vo]
  omega
theorem F2(m:List Ent) {a:Nat->Bool}{i:Nat}(hi:L i=false) (hL':∀j,a j=(L j || j==i)):∀{q:Nat},i<q->(∀j,i<j->j<q->L j=true->∀id e e',ww i=some (id,e)->ww j≠some (id,e'))->
 sS ww a m q=(match ww i with|some (id,e)=>(sS ww L m q).set id e|none=>sS ww L m q):=by
 have hlow:∀n,n<=i->sS ww a m n=sS ww L m n:=by
  intro n
  induction n with
  |zero=>intro _;rfl
  |succ n d=>
   grind[sS]
 intro q
 induction q with
 |zero=>omega
 |succ q d=>
  intro hq hw;by_cases hqi:q=i
  .simp_all[sS]
  .have f:a q=L q:=by simp_all
   have c:=d (by omega) λj g hjq=>hw j g (by omega);simp only[sS,f,c]
   cases hdi:ww i with
   |none=>simp
   |some p=>
    obtain⟨id,e⟩:=p;simp only;split
    .rename_i hLq;split
     .rename_i b e' hz;have hne:id≠b:=by
       grind
      grind[Sae]
     .rfl
    .rfl
end
def I.dT:I->Option Operand
 |.store _ x _=>some x
 |.trunc _ x _ _=>some x
 |.append _ _ x _=>some x
 |_=>none
def I.src:I->Option Operand
 |.append _ _ _ y=>some y
 |_=>none
def Ff(s:St):I->Bool
 |.trunc _ x _ _=>match s.ev x with|.own ..=>true|_=>false
 |.append _ _ x _=>match s.ev x with|.own ..=>true|_=>false
 |_=>true
theorem uF{i:I}{x:Operand}(h:i.dT=some x):i.cls=3/\((∃n y,i=.store n x y)\/(∃S lo hi,i=.trunc S x lo hi)\/∃S b y,i=.append S b x y):=by
 cases i<;>simp[I.dT]at h
 .subst h;exact⟨rfl,.inl ⟨_,_,rfl⟩⟩
 .subst h;exact⟨rfl,.inr (.inr ⟨_,_,_,rfl⟩)⟩
 .subst h;exact⟨rfl,.inr (.inl ⟨_,_,_,rfl⟩)⟩
theorem GO{s:St}{n:Nat}{x y:Operand}{d:D}{m1:List Ent}(he:fa s (.store n x y)=some (d,m1)) :
 ∃id e,Xd (s.ev x)=some id/\m1=s.m.set id e/\(∃a,s.m[id]?=some a)/\
  ∀s':St,(∀t∈(I.store n x y).reads,s'.t.getD t .dead=s.t.getD t .dead)->s'.m[id]?=s.m[id]?->fa s' (.store n x y)=some (d,s'.m.set id e):=by
 simp only[fa]at he;split at he
 .rename_i id Pa ix sub hx;split at he
  .rename_i S ver' l hm;split at he
   .rename_i hc;simp only[qac]at he;obtain⟨d0,h0,he⟩:=he;split at he
    .rename_i hc2;injection he with he;injection he with b h2;subst b;subst h2;refine⟨id,_,by rw[hx];rfl,rfl,⟨_,hm⟩,λs' ht hm'=>?_⟩;have ex:s'.ev x=s.ev x:=Ba (λt h=>ht t (by grind[I.reads]));have ey:s'.ev y=s.ev y:=Ba (λt h=>ht t (by grind[I.reads]))
     simp_all[fa]
    simp_all
   simp_all
  simp_all
 simp_all
theorem HO{s:St}{S:Nat}{x:Operand}{lo hi:Option Operand}{d:D}{m1:List Ent}(hb:Ff s (.trunc S x lo hi)=true) (he:fa s (.trunc S x lo hi)=some (d,m1)) :
 ∃id e,Xd (s.ev x)=some id/\m1=s.m.set id e/\(∃b,s.m[id]?=some b)/\
  ∀s':St,(∀t∈(I.trunc S x lo hi).reads,s'.t.getD t .dead=s.t.getD t .dead)->s'.m[id]?=s.m[id]?->fa s' (.trunc S x lo hi)=some (d,s'.m.set id e):=by
 simp only[Ff]at hb;split at hb
 .rename_i id Pa hx;simp only[fa,hx]at he;split at he
  .rename_i S' ver' l hm;split at he
   .rename_i a h hlo hhi;split at he
    .rename_i hc;injection he with he;injection he with c h2;subst c;subst h2;refine⟨id,_,by rw[hx];rfl,rfl,⟨_,hm⟩,λs' ht hm'=>?_⟩;have ex:s'.ev x=s.ev x:=Ba (λt h=>ht t (by grind[I.reads]));have e1:bound s' 0 lo=bound s 0 lo:=Jp (λt h=>ht t (by grind[I.reads]));have e2:bound s' l.length hi=bound s l.length hi:=Jp (λt h=>ht t (by grind[I.reads]))
     simp_all[fa]
    simp_all
   simp_all
  simp_all
 simp_all
theorem IF{S:Nat}{m m':List Ent}{d:D}(h:∀id,Xd d=some id->m'[id]?=m[id]?):contents S m' d=contents S m d:=by
 cases d with
 |own id v=>simp only[contents];rw[h _ rfl]
 |view id v a b=>simp only[contents];rw[h _ rfl]
 |v x=>simp only[contents];grind
 |_=>rfl
theorem JO{s:St}{S b:Nat}{x y:Operand}{d:D}{m1:List Ent}(hb:Ff s (.append S b x y)=true) (he:fa s (.append S b x y)=some (d,m1)) :
 ∃id e,Xd (s.ev x)=some id/\m1=s.m.set id e/\(∃f,s.m[id]?=some f)/\
  ∀s':St,(∀t∈(I.append S b x y).reads,s'.t.getD t .dead=s.t.getD t .dead)->s'.m[id]?=s.m[id]?->(∀a,Xd (s.ev y)=some a->s'.m[a]?=s.m[a]?)->fa s' (.append S b x y)=some (d,s'.m.set id e):=by
 simp only[Ff]at hb;split at hb
 .rename_i id Pa hx;simp only[fa,hx]at he;split at he
  .rename_i r hr;split at he
   .rename_i S' ver' l hm;split at he
    .rename_i hc;injection he with he;injection he with i h2;subst i;subst h2;refine⟨id,_,by rw[hx];rfl,rfl,⟨_,hm⟩,λs' ht c j=>?_⟩;have ex:s'.ev x=s.ev x:=Ba (λt h=>ht t (by grind[I.reads]));have g:s'.ev y=s.ev y:=Ba (λt h=>ht t (by grind[I.reads]));simp only[fa,ex,hx,c,hm,g,IF j,hr]
     simp_all
    simp_all
   simp_all
  simp_all
 simp_all
theorem rJ{s:St}{i:I}{x:Operand}{d:D}{m1:List Ent}(ht:i.dT=some x) (hb:Ff s i=true) (he:fa s i=some (d,m1)) :
 ∃id e,Xd (s.ev x)=some id/\m1=s.m.set id e/\(∃c,s.m[id]?=some c)/\
  (∀s':St,(∀t∈i.reads,s'.t.getD t .dead=s.t.getD t .dead)->s'.m[id]?=s.m[id]?->(∀y,i.src=some y->∀a,Xd (s.ev y)=some a->s'.m[a]?=s.m[a]?)->fa s' i=some (d,s'.m.set id e)):=by
 rcases(uF ht).2 with⟨n,y,rfl⟩|⟨S,lo,hi,rfl⟩|⟨S,b,y,rfl⟩
 .grind[GO]
 .grind[HO]
 .obtain⟨id,e,f,h2,g,h⟩:=JO hb he;exact⟨id,e,f,h2,g,λs' j k k3=>h s' j k (k3 y rfl)⟩
theorem yK{s:St}{i:I}{y:Operand}{d:D}{m1:List Ent}(f:i.src=some y) (he:fa s i=some (d,m1)) {id:Nat}(h:Xd (s.ev y)=some id):∃e,s.m[id]?=some e:=by
 obtain⟨S,b,x,rfl⟩:∃S b x,i=.append S b x y:=by cases i<;>simp[I.src]at f;simp_all
 simp only[fa]at he;split at he
 .rename_i r hr
  cases g:s.ev y with
  |own a b=>grind[Xd,contents]
  |view a b c e=>grind[Xd,contents]
  |ref a b c e=>grind[contents]
  |mp a=>grind[contents]
  |_=>rw[g]at h;simp[Xd]at h
 simp_all
theorem fT{i:I}{x:Operand}(ht:i.dT=some x):∀t∈Se x,t∈i.reads:=by
 rcases(uF ht).2 with⟨n,y,rfl⟩|⟨S,lo,hi,rfl⟩|⟨S,b,y,rfl⟩<;>intro t h<;>simp[I.reads,h]
theorem HP{i:I}{x:Operand}(ht:i.dT=some x):i.Q4=none:=by
 rcases(uF ht).2 with⟨n,y,rfl⟩|⟨S,lo,hi,rfl⟩|⟨S,b,y,rfl⟩<;>rfl
theorem LD{s s':St}{i:I}{d:D}(hc:i.cls=2) (ht:∀t∈i.reads,s'.t.getD t .dead=s.t.getD t .dead) (hm:s'.m.length=s.m.length) {m1:List Ent}(he:fa s i=some (d,m1)) :
 ∃e,m1=s.m++[e]/\fa s' i=some (d,s'.m++[e]):=by
 cases i with
 |alloc S z=>
  simp only[fa,wab,mab]at he⊢
  simp_all
 |box S x=>
  simp only[fa]at he⊢;rw[Ba (s:=s) (s':=s') (x:=x) (λt h=>ht t (by grind[I.reads]))]
  simp_all
 |bslice S n z ps=>
  grind[fa,I.reads,Cr,Paa]
 |mkslice S b z l c=>
  simp only[fa]at he⊢;rw[Ba (s:=s) (s':=s') (x:=l) (λt h=>ht t (by grind[I.reads])),Ba (s:=s) (s':=s') (x:=c) (λt h=>ht t (by grind[I.reads]))]
  grind
 |mkmap=>
  simp only[fa,wab,mab]at he⊢
  simp_all
 |_=>simp[I.cls]at hc
mutual
def zm:D->List Nat
 |.agg l=>Tk l
 |.tup l=>Tk l
 |.sl _ l=>Tk l
 |.pt d=>zm d
 |.fn _ a b=>Tk a++Tk b
 |.ifc _ d=>zm d
 |.own id _=>[id]
 |.view id _ _ _=>[id]
 |.ref id _ _ _=>[id]
 |.mp id=>[id]
 |.v _=>[]
 |.dead=>[]
def Tk:List D->List Nat
 |[]=>[]
 |d::l=>zm d++Tk l
end
mutual
theorem FK:∀{d:D},oa d=true->zm d=[]
 |.v _,_=>rfl
 |.agg l,h=>by simp only[oa]at h;simp only[zm,Vt h]
 |.tup l,h=>by simp only[oa]at h;simp only[zm,Vt h]
 |.sl _ l,h=>by simp only[oa]at h;simp only[zm,Vt h]
 |.pt d,h=>by simp only[oa]at h;simp only[zm,FK h]
 |.fn _ a b,h=>by simp only[oa,Vaa]at h;simp only[zm,Vt h.1,Vt h.2,vab]
 |.ifc _ d,h=>by simp only[oa]at h;simp only[zm,FK h]
 |.own ..,h=>by grind[oa]
 |.view ..,h=>by grind[oa]
 |.ref ..,h=>by grind[oa]
 |.mp _,h=>by grind[oa]
 |.dead,_=>rfl
theorem Vt:∀{l:List D},ia l=true->Tk l=[]
 |[],_=>rfl
 |d::l,h=>by simp only[ia,Vaa]at h;simp only[Tk,FK h.1,Vt h.2,vab]
end
def Jb(s:St):List Operand->List Nat
 |[]=>[]
 |x::l=>zm (s.ev x)++Jb s l
theorem sD{s:St}:∀{l:List Operand},Jb s l=Tk (l.map s.ev)
 |[]=>rfl
 |x::l=>by simp only[Jb,xab,Tk,sD (l:=l)]
mutual
theorem fF{G:Gh}{w:World}{id:Nat}:∀{d:D}{u:Value},VRel G w d u->id∈zm d->id<G.n
 |.v x,u,h,hi=>by grind[zm]
 |.agg l,u,h,hi=>by
  simp only[VRel]at h;simp only[zm]at hi;obtain⟨cs,rfl,h,-⟩:=h;exact Ut h hi
 |.tup l,u,h,hi=>by
  simp only[VRel]at h;simp only[zm]at hi;obtain⟨cs,rfl,h⟩:=h;exact Ut h hi
 |.sl S l,u,h,hi=>by
  simp only[VRel]at h;simp only[zm]at hi;obtain⟨a,n,c,rfl,-,-,h|⟨b,off,rfl,-,h⟩⟩:=h
  .grind[Tk]
  .exact vJ h hi
 |.pt d,u,h,hi=>by
  simp only[VRel]at h;simp only[zm]at hi;obtain⟨b,off,x,rfl,-,h,-⟩:=h;exact fF h hi
 |.ref a b c e,u,h,hi=>by
  simp only[VRel]at h;grind[zm]
 |.own a b,u,h,hi=>by
  simp only[VRel]at h;grind[zm]
 |.view a b c e,u,h,hi=>by
  simp only[VRel]at h;grind[zm]
 |.fn f a b,u,h,hi=>by
  simp only[VRel]at h;simp only[zm,Jab]at hi;obtain⟨fs,cs,rfl,g,h2⟩:=h;rcases hi with hi|hi
  .exact Ut g hi
  .exact Ut h2 hi
 |.mp a,u,h,hi=>by
  simp only[VRel]at h;grind[zm]
 |.ifc t d,u,h,hi=>by
  simp only[VRel]at h;simp only[zm]at hi;obtain⟨x,rfl,h⟩:=h;exact fF h hi
 |.dead,u,h,hi=>by grind[zm]
theorem Ut{G:Gh}{w:World}{id:Nat}:∀{l:List D}{us:List Value},VsRel G w l us->id∈Tk l->id<G.n
 |[],us,h,hi=>by grind[Tk]
 |d::l,us,h,hi=>by
  simp only[VsRel]at h;simp only[Tk,Jab]at hi;obtain⟨u,r,rfl,a,h2⟩:=h;rcases hi with hi|hi
  .exact fF a hi
  .exact Ut h2 hi
theorem vJ{G:Gh}{w:World}{id b S:Nat}:∀{l:List D}{off:Nat},Ta G w b S l off->id∈Tk l->id<G.n
 |[],off,h,hi=>by grind[Tk]
 |d::l,off,h,hi=>by
  simp only[Ta]at h;simp only[Tk,Jab]at hi;obtain⟨⟨u,a,-⟩,h2⟩:=h;rcases hi with hi|hi
  .exact fF a hi
  .exact vJ h2 hi
end
def ct(s:St):List Operand->List Nat
 |[]=>[]
 |x::l=>match Xd (s.ev x)with|some id=>id::ct s l|none=>ct s l
def Im(s:St):RI->List Nat
 |.op _ _ i=>
  match i.Q4 with
  |some x=>ct s [x]
  |none=>match i.dT with|some x=>ct s (x::i.src.toList)|none=>[]
 |.call _ _ _ args=>Jb s args
theorem QQ{s:St}{x:Operand}{l:List Operand}{id:Nat}(h:Xd (s.ev x)=some id):id∈ct s (x::l):=by grind[ct]
theorem W3{s:St}{x:Operand}{l:List Operand}{id:Nat}(h:id∈ct s l):id∈ct s (x::l):=by grind[ct]
theorem NN{s:St}{x:Operand}{id:Nat}(h:Xd (s.ev x)=some id):id∈ct s [x]:=by grind[ct]
abbrev Os:=List (D×List Ent×Option (Nat×Ent))
def os0:D×List Ent×Option (Nat×Ent):=(.dead,[],none)
def KQ:RI:=.op none none (.mv (.const undef))
def Ev(P:Program) (r:RI) (s:St) (d:D) (x:List Ent) (w:Option (Nat×Ent)):Prop:=
 match r with
 |.op _ g i=>((gate s g=some none\/∃c,gate s g=some (some (c,c)))/\
  ((w=none/\i.cls<=2/\fa s i=some (d,s.m++x))\/(x=[]/\∃a id e,i.dT=some a/\Xd (s.ev a)=some id/\w=some (id,e)/\fa s i=some (d,s.m.set id e)/\id<s.m.length/\Ff s i=true)))\/
  ((∃c b,gate s g=some (some (c,b))/\c≠b)/\d=.v undef/\x=[]/\w=none)
 |.call _ g f args=>x=[]/\w=none/\
  ((∃k first caps,s.cv f=.fn k first caps/\(gate s g=some none\/∃c,gate s g=some (some (c,c)))/\(∀id∈Jb s args,id<s.m.length)/\∀m,(∀id∈Jb s args,m[id]?=s.m[id]?)->CallT P k (first++args.map s.ev++caps) m λd' m'=>d'=d/\m'=m)\/((∃c b,gate s g=some (some (c,b))/\c≠b)/\d=.v undef))
def wr(m:List Ent) (w:Option (Nat×Ent)):List Ent:=match w with|some (id,e)=>m.set id e|none=>m
def Zk(s:St) (r:RI) (d:D) (x:List Ent) (w:Option (Nat×Ent)):St:=({ s with m:=wr s.m w++x }:St).put r.dst d
theorem BF(s:St) (r:RI) (d:D) (x:List Ent) (w:Option (Nat×Ent)):Zk s r d x w=⟨(match r.dst with|some y=>s.t.set y d|none=>s.t),wr s.m w++x⟩:=by
 grind[Zk,St.put]
section
variable {P:Program}
def ER(rl:List RI) (i:Nat):Option Tmp:=(rl.getD i KQ).dst
def w7(os:Os) (i:Nat):D:=(os.getD i os0).1
def kI(os:Os) (i:Nat):List Ent:=(os.getD i os0).2.1
def TQ(os:Os) (i:Nat):Option (Nat×Ent):=(os.getD i os0).2.2
def Mn(rl:List RI) (os:Os) (s:St) (L:Nat->Bool) (n:Nat):St:=
 ⟨tS (ER rl) (w7 os) L s.t n,sS (TQ os) L (mS (kI os) L s.m n) n⟩
theorem Ev.lt{r:RI}{s:St}{d:D}{x:List Ent}{w:Option (Nat×Ent)}(h:Ev P r s d x w) {id:Nat}{e:Ent}(hw:w=some (id,e)):id<s.m.length/\x=[]/\id∈Im s r:=by
 subst hw
 cases r with
 |call dst g f args=>obtain⟨_,h,_⟩:=h;cases h
 |op dst g i=>
  rcases h with⟨_,⟨h,_⟩|⟨hx,a,id',e',ht,h1,h2,h3,h4,_⟩⟩|⟨_,_,_,h⟩
  all_goals grind[Im,HP,QQ]
theorem mP{G:Gh}{w:World}{a:Act}{s:St}(hr:Rel G w a s) {x:Operand}{id:Nat}(h:Xd (s.ev x)=some id):id<s.m.length:=by
 have hv:=hr.ev x;have hn:=hr.inv.n;generalize s.ev x=d at *;cases d<;>simp only[Xd,reduceCtorEq,wab]at h
 .subst h;simp only[VRel]at hv;omega
 .subst h;simp only[VRel]at hv;omega
 .subst h;simp only[VRel]at hv;omega
 .subst h;simp only[VRel]at hv;omega
theorem UY{ops:Array Oper}{o:Oper}{r:RI}(hc:Eo P ops o=some r) {sc s:St}{d:D}{x:List Ent}{H:Option (Nat×Ent)}(hf:Ev P r sc d x H) (ht:∀t∈r.reads,s.t.getD t .dead=sc.t.getD t .dead)
 (hm:r.cls=2->s.m.length=sc.m.length) (U:∀(id:Nat),id∈Im sc r->(∃e,sc.m[id]?=some e)->id<s.m.length->s.m[id]?=sc.m[id]?)
 {G:Gh} {w:World} {a:Act} (hr:Rel G w a s) {i:Nat} (hi:ops[i]?=some o) {Q:Exit->Act->World->Prop} {K:Act->World->Prop}
 (Z:∀G' w' a',Rel G' w' a' (Zk s r d x H)->Step G w s.m G' w' (wr s.m H++x)->(∀id e,H=some (id,e)->id<s.m.length)->K a' w'):wpOp P ops Q i K a w:=by
 have O:=tw hc;unfold wpOp;simp only[hi];unfold Eo at hc;split at hc
 .grind
 .rename_i g hg;obtain⟨hgate1,hgate2⟩:=sn hr hg;have hgt:gate s g=gate sc g:=qG (λt h=>ht t (by
   split at hc
   .grind[RI.reads]
   .simp only[Paa]at hc;obtain⟨i,-,rfl⟩:=hc
    grind[RI.reads]))
  have Y:(gate sc g=some none\/∃c,gate sc g=some (some (c,c)))->Region.wanted o (yielded ops a.tmps)=true:=by
   grind
  have woff:(∃c b,gate sc g=some (some (c,b))/\c≠b)->Region.wanted o (yielded ops a.tmps)=false:=by
   grind
  have skip:d=.v undef->x=[]->H=none->K (a.put o.dst undef) w:=by
   rintro rfl rfl rfl;refine Z G w _ ?_ (by rw[vab];exact Step.refl _ _ _) (λ_ _ h=>by cases h);unfold Zk;rw[O,vab];exact RB hr o.dst
  split at hc
  .rename_i f args ho;injection hc with hc;subst hc;obtain⟨rfl,rfl,hf⟩:=hf;have l:args.map s.ev=args.map sc.ev:=map_congr (λt h=>ht t (by grind[RI.reads]));rcases hf with⟨k,first,caps,hfe,E,S,C⟩|⟨V,hd⟩
   .have R:s.cv f=.fn k first caps:=by grind[RI.reads,NF]
    rw[if_pos (Y E)];refine .inl ?_;obtain⟨⟨fn,e1,e2,e3⟩,N⟩:=C s.m λid q=>by
     refine U id q ⟨_,Maa (S id q)⟩ ?_;rw[sD,←l]at q;rw[←hr.inv.n];exact Ut (Ny hr _) q
    obtain⟨fs,cs,W,hv1,hv2⟩:=Fy hr ho (pU R) e1 e2 e3;rw[←l]at N;have z:=N G w (fs++args.map a.eval++cs) ((hv1.append (Ny hr _)).append hv2) hr.inv;unfold Oper.wp;rw[W,Oper.upon_enter];refine z.mono ?_;rintro e w' ⟨v,d',m',G',rfl,⟨rfl,rfl⟩,hvd,hi',A⟩;refine Z G' w' _ ?_ (by rw[vab];exact A) (λ_ _ h=>by cases h);unfold Zk;rw[vab];exact(hr.step A.le hi').put o.dst hvd
   simp_all
  .rename_i hno;simp only[Paa]at hc;obtain⟨j,hj,rfl⟩:=hc;rcases hf with⟨E,p⟩|⟨V,hd,hx,hw⟩
   .rw[if_pos (Y E)];refine .inl ?_;have F:∀t∈j.reads,s.t.getD t .dead=sc.t.getD t .dead:=λt h=>ht t (by grind[RI.reads]);have M:∀y,(∀t∈Se y,t∈j.reads)->s.ev y=sc.ev y:=λy L=>Ba (λt h=>F t (L t h));have B:fa s j=some (d,wr s.m H++x)/\(∀id e,H=some (id,e)->id<s.m.length):=by
     simp only[RI.cls]at hm;rcases p with⟨rfl,hcls,p⟩|⟨rfl,a1,id,e,htg,X,rfl,p,hlt,hsb⟩
     .refine⟨?_,λ_ _ h=>by cases h⟩;simp only[wr];by_cases h2:j.cls=2
      .grind[LD,List.append_cancel_left]
      .have J:j.cls<=1:=by omega
       obtain⟨hxm,hres⟩:=Np (s:=sc) (s':=s) J F (λy id L q=>by
        have hevy:s.ev y=sc.ev y:=M y (λt h=>by
         cases j<;>simp only[I.Q4,reduceCtorEq,wab]at L<;>subst L<;>simp[I.reads,h])
        grind[Im,NN,KD,mP]) p
       simp_all
     .obtain⟨id',e',J,h2,h3,h4⟩:=rJ htg hsb p;rw[X]at J;injection J with J;subst J;have T:id<s.m.length:=mP hr (x:=a1) (by grind[fT]);have hee:e=e':=by
       have:=congrArg (λm=>m[id]?) h2
       grind
      subst hee;refine⟨?_,λid2 e2 h=>by simp_all⟩;rw[vab];refine h4 s F (U id (by grind[Im,HP,QQ]) h3 T) λy L id' hid'=>?_;have hey:s.ev y=sc.ev y:=M y (by
       cases j<;>simp[I.src]at L
       grind[I.reads])
      grind[Im,HP,W3,NN,mP,yK]
    exact hr.ir (Iy hj hr B.1) λG' w' u hr' A=>Z G' w' _ hr' A B.2
   simp_all
end
def RI.CE(y:RI):Bool:=
 match y with
 |.op _ _ i=>decide (i.cls<=2) || i.dT.isSome
 |.call ..=>true
section
variable {P:Program} {ops:Array Oper} {Q:Exit->Act->World->Prop} {K:St->Prop} {rl:List RI} {q:Nat} {ps:List (List Nat)}
end
def yQ:Nat->Nat->Bool
 |0,0=>false
 |0,_+1=>true
 |_+1,0=>true
 |a+1,b+1=>yQ a b
theorem LV:∀{a b:Nat},yQ a b=true->a≠b
 |0,0,h=>by grind[yQ]
 |0,_+1,_=>by omega
 |_+1,0,_=>by omega
 |a+1,b+1,h=>by have:=LV (a:=a) (b:=b) h;omega
def Ix(a:Nat):List Nat->Bool
 |[]=>true
 |b::l=>yQ a b&&Ix a l
def Zp:List Nat->List Nat->Bool
 |[],_=>true
 |a::l,r=>Ix a r&&Zp l r
theorem cJ{a b:Nat}:∀{l:List Nat},Ix a l=true->b∈l->a≠b
 |[],_,h=>by cases h
 |c::l,h,hm=>by
  simp only[Ix,Vaa]at h;rcases kac.1 hm with rfl|hm
  .grind[LV]
  .exact cJ h.2 hm
theorem dJ{a:Nat}:∀{l r:List Nat},Zp l r=true->a∈l->a∉r
 |[],_,_,h=>by cases h
 |c::l,r,h,hm=>by
  simp only[Zp,Vaa]at h;rcases kac.1 hm with rfl|hm
  .exact λhr=>cJ h.1 hr rfl
  .exact dJ h.2 hm
def FA(fp:List (List Nat)) (f:List Nat):List Nat->Bool
 |[]=>true
 |i::l=>Zp (fp.getD i []) f&&FA fp f l
theorem XE{fp:List (List Nat)}{f:List Nat}{k:Nat}:∀{l:List Nat},FA fp f l=true->k∈l->Zp (fp.getD k []) f=true
 |[],_,h=>by cases h
 |z::l,h,hm=>by
  simp only[FA,Vaa]at h;rcases kac.1 hm with rfl|hm
  .grind
  .exact XE h.2 hm
def tx(P:Program):List (List Nat)->List (List Nat)->Nat->List RI->(St->Prop)->St->Prop
 |_,_,0,l,K,s=>Lj P l K s
 |_,_,_+1,[],_,_=>False
 |ps,fp,q+1,.op dst g i::l,K,s=>
  FA fp (Im s (.op dst g i)) (ps.headD [])=true/\
  match gate s g with
  |none=>False
  |some none=>∃d m',Ff s i=true/\fa s i=some (d,m')/\tx P ps.tail (fp++[Im s (.op dst g i)]) q l K ({ s with m:=m' }.put dst d)
  |some (some (c,b))=>(c=b->∃d m',Ff s i=true/\fa s i=some (d,m')/\tx P ps.tail (fp++[Im s (.op dst g i)]) q l K ({ s with m:=m' }.put dst d))/\(c≠b->tx P ps.tail (fp++[Im s (.op dst g i)]) q l K (s.put dst (.v undef)))
 |ps,fp,q+1,.call dst g f args::l,K,s=>
  match s.cv f with
  |.fn k first caps=>
   match gate s g with
   |none=>False
   |some none=>FA fp (Jb s args) (ps.headD [])=true/\∃d,((∀id∈Jb s args,id<s.m.length)/\∀m,(∀id∈Jb s args,m[id]?=s.m[id]?)->CallT P k (first++args.map s.ev++caps) m λd' m'=>d'=d/\m'=m)/\tx P ps.tail (fp++[Jb s args]) q l K (s.put dst d)
   |some (some (c,b))=>FA fp (Jb s args) (ps.headD [])=true/\(c=b->∃d,((∀id∈Jb s args,id<s.m.length)/\∀m,(∀id∈Jb s args,m[id]?=s.m[id]?)->CallT P k (first++args.map s.ev++caps) m λd' m'=>d'=d/\m'=m)/\tx P ps.tail (fp++[Jb s args]) q l K (s.put dst d))/\(c≠b->tx P ps.tail (fp++[Jb s args]) q l K (s.put dst (.v undef)))
  |_=>False
section
variable {P:Program} {K:St->Prop}
end
section
variable {P:Program} {N:Nat} {ops:Array Oper} {Q:Exit->Act->World->Prop} {K:St->Prop} {rl:List RI} {q:Nat} {ps:List (List Nat)}
end
open Go.RowKit (Below)
theorem HC{G:Gh}{w:World}{m:List Ent}(hi:Inv G w m) {p S Pa:Nat}(hm:m[p]?=some (.live S Pa [])) (l:List D) (C:Nat) (cs:Array Value) (T:TypeId)
 (hr:qg G w S l cs) (hC:l.length<=C) (hcs:C*S<=cs.size) :
 Inv (G.vf p (some w.heap.size) (Pa+1) l.length (C,0)) (w.alloc (.cells cs T)) (m.set p (.live S (Pa+1) l))/\
  Step G w m (G.vf p (some w.heap.size) (Pa+1) l.length (C,0)) (w.alloc (.cells cs T)) (m.set p (.live S (Pa+1) l)):=by
 have a:∀k,k<w.heap.size->(w.alloc (.cells cs T)).heap[k]?=w.heap[k]?:=λk hk=>Below.heap_alloc _ _ _ hk;obtain⟨hV,hS,-⟩:=hi.ent p _ hm;refine Pf hi hm rfl rfl _ _ _ _ (.inl (by omega)) rfl rfl rfl (by simp) (λk hk _=>a k hk) (λk h=>by simp_all) ?_;have c:Le G w (G.vf p (some w.heap.size) (Pa+1) l.length (C,0)) (w.alloc (.cells cs T)):=by
  refine⟨λ_ h=>h,λk hk=>a k (hi.F k hk),dab _,λi _=>?_⟩
  grind[Gh.vf]
 have b:(w.alloc (.cells cs T)).heap[w.heap.size]?=some (.cells cs T (0,0)):=by
  show(w.heap.push (.cells cs T))[w.heap.size]?=_;simp
 refine⟨by simp[Gh.vf],by grind[Gh.vf],by simp[Gh.vf],by grind[Gh.vf],.inr ⟨w.heap.size,cs,T,by simp[Gh.vf],λh=>?_,b,by grind[Gh.vf],by simpa [Gh.vf] using Qk b (hr.mono c)⟩⟩;have:=hi.F _ h;omega
def qn(s:St) (p:Nat):I->Option (D×Ent)
 |.alloc S z=>match s.m[p]? with
  |some (.live S' Pa [])=>if S'=S then some (.ref p (Pa+1) 0 0,.live S (Pa+1) [z])else none
  |_=>none
 |.box S x=>match s.m[p]? with
  |some (.live S' Pa [])=>if S'=S/\(s.ev x).ok=true/\(s.ev x).cells.length=S then some (.ref p (Pa+1) 0 0,.live S (Pa+1) [s.ev x])else none
  |_=>none
 |.bslice S n z ps=>match s.m[p]? with
  |some (.live S' Pa [])=>if S'=S then(zc s S ps (Oaa n z)).map λl=>(.own p (Pa+1),.live S (Pa+1) l)else none
  |_=>none
 |_=>none
section
variable {P:Program} {G:Gh} {w:World} {a:Act} {s:St} {d:D} {e:Ent} {p:Nat}
theorem vN{w':World}{C Pa b N:Nat}(hp:p<G.n):VRel (G.vf p (some b) (Pa+1) N (C,0)) w' (.ref p (Pa+1) 0 0) (.pointer (some ⟨b,0,none⟩)):=by
 simp only[VRel];exact⟨_,rfl,by grind[Gh.vf],by simp[Gh.vf],λ_=>⟨b,by simp[Gh.vf],by simp[Gh.vf]⟩⟩
theorem dW{w':World}{C Pa b N:Nat}(hp:p<G.n):VRel (G.vf p (some b) (Pa+1) N (C,0)) w' (.own p (Pa+1)) (.slice (some ⟨b,0,none⟩) N C):=by
 simp only[VRel];exact⟨_,_,_,rfl,by grind[Gh.vf],by simp[Gh.vf],λ_=>⟨by simp[Gh.vf],by simp[Gh.vf],by simp[Gh.vf]⟩⟩
theorem SY(hr:Rel G w a s) {t:TypeId}{z:Value}{o:Oper}(ho:o.op=.alloc t) (g:zeroOf P t=some z) (he:qn s p (.alloc z.cells.size (leaf z))=some (d,e)) :
 Good G w s.m ((execOp a.eval o).run P w) d (s.m.set p e):=by
 simp only[qn]at he;split at he
 .rename_i S' Pa hm;split at he
  .rename_i f;subst f;injection he with he;injection he with c h2;subst c;subst h2;obtain⟨hz1,b,hz3,-⟩:=om g w;obtain⟨g1,g2⟩:=HC hr.inv hm [leaf z] 1 z.cells t (cz (aw z b) rfl (ZJ b)) (by simp) (by simp);refine⟨_,_,_,?_,.inl ⟨_,rfl,vN (C:=1) (N:=1) (by rw[hr.inv.n];grind)⟩,g1,g2⟩
   simp_all[execOp,Instr.alloc,newVar,newRow]
  simp_all
 simp_all
theorem f_box(hr:Rel G w a s) {t:TypeId}{x:Operand}{S:Nat}{o:Oper}(ho:o.op=.box t x) (he:qn s p (.box S x)=some (d,e)) :
 Good G w s.m ((execOp a.eval o).run P w) d (s.m.set p e):=by
 simp only[qn]at he;split at he
 .rename_i S' Pa hm;split at he
  .rename_i hc;obtain⟨rfl,f,hlen⟩:=hc;injection he with he;injection he with b h2;subst b;subst h2;have hx:=hr.ev x;obtain⟨hv,b⟩:=hx.cells f;have g:(a.eval x).cells.size=S':=by rw[←Jac,hv.length];omega
   obtain⟨g1,g2⟩:=HC hr.inv hm [s.ev x] 1 (a.eval x).cells t (cz hx g (λj c hj=>b c (by grind))) (by simp) (by omega);refine⟨_,_,_,?_,.inl ⟨_,rfl,vN (C:=1) (N:=1) (by rw[hr.inv.n];grind)⟩,g1,g2⟩
   simp_all[execOp,Instr.box,newVar,newRow]
  simp_all
 simp_all
theorem TU(hr:Rel G w a s) {t e':TypeId}{n:Nat}{ps:Array (Nat×Operand)}{z:Value}{o:Oper}(ho:o.op=.buildSlice t n ps)
 (ht:P.underlying t=some (.slice e')) (A:zeroOf P e'=some z) (hsmall:n*z.cells.size<=2 ^ 24) (he:qn s p (.bslice z.cells.size n (leaf z) ps.toList)=some (d,e)) :
 Good G w s.m ((execOp a.eval o).run P w) d (s.m.set p e):=by
 simp only[qn]at he;split at he
 .rename_i S' Pa hm;split at he
  .rename_i y;subst y;simp only[Paa,mab]at he;obtain⟨l,hb,rfl,rfl⟩:=he;obtain⟨u,v,hz3,i,hi,c,hzz⟩:=om A w;obtain⟨cells,hf,g,hcs,b⟩:=CK hr hb (Is v n) (by simp);simp only[List.length_replicate]at b;obtain⟨g1,g2⟩:=HC hr.inv hm l n cells e' g (by omega) (by simp_all);refine⟨_,_,_,?_,.inl ⟨_,rfl,dW (N:=l.length) (C:=n) (by rw[hr.inv.n];grind)⟩,g1,g2⟩;unfold execOp;simp only[ho];have q:¬(2 ^ 24<n*i.size):=by simp_all
   by_cases x:n*i.size=0
   .have j:n=0:=by
     grind[Nat.mul_eq_zero]
    subst j;rw[c.symm]at hf;rw[Nat.zero_mul,show Rad 0 = #[]from rfl,Array.map_empty]at hf;have h:Instr.fill (λk=>some (k*i.size,i.size)) #[] (ps.toList.map λp=>(p.1,a.eval p.2))=some cells:=hf;have r:∀f:Nat->Value,Array.map f (Rad 0) = #[]:=λf=>by simp
    simp[Instr.buildSlice,run_underlying ht,Gd hi,r,h,newRow,b]
   .rw[c.symm]at hf;simp[Instr.buildSlice,run_underlying ht,Gd hi,q,x,u,hf,newRow,b,c.symm]
  simp_all
 simp_all
theorem AP{ops:Array Oper}{o:Oper}{i:I}(hc:Zq P ops o o.op=some i) (hr:Rel G w a s) (he:qn s p i=some (d,e)):Good G w s.m ((execOp a.eval o).run P w) d (s.m.set p e):=by
 cases i with
 |alloc S z=>
  obtain⟨t,b,ho,f,rfl,rfl⟩:∃t b,o.op=.alloc t/\zeroOf P t=some b/\b.cells.size=S/\leaf b=z:=by
   unfold Zq at hc;split at hc
   .grind[jz,Paa]
   .unfold ED at hc
    repeat' split at hc
    all_goals first
     |cases hc
     |(
      simp only[Paa]at hc;obtain⟨b,f,h⟩:=hc
      first|cases h|skip)
    simp_all
  grind[SY]
 |box S x=>
  obtain⟨t,ho⟩:∃t,o.op=.box t x:=by
   unfold Zq at hc;split at hc
   .grind[jz,Paa]
   .unfold ED at hc
    grind[Paa]
  grind[f_box]
 |bslice S n z ps=>
  obtain⟨t,e',c,b,ho,ht,f,hsmall,rfl,rfl,rfl⟩:∃t e' c b,o.op=.buildSlice t n c/\P.underlying t=some (.slice e')/\zeroOf P e'=some b/\n*b.cells.size<=2 ^ 24/\b.cells.size=S/\leaf b=z/\c.toList=ps:=by
   unfold Zq at hc;split at hc
   .grind[jz,Paa]
   .unfold ED at hc
    repeat' split at hc
    all_goals first
     |(cases hc;exact⟨_,_,_,_,by omega,by omega,by omega,by omega,rfl,rfl,rfl⟩)
     |cases hc
     |(
      simp only[Paa]at hc;obtain⟨b,f,h⟩:=hc;cases h)
  grind[TU]
 |_=>simp[qn]at he
end
theorem JM{s s':St}{p:Nat}{i:I}(ht:∀t∈i.reads,s'.t.getD t .dead=s.t.getD t .dead) (hm:s'.m[p]?=s.m[p]?):qn s' p i=qn s p i:=by
 cases i with
 |alloc S z=>grind[qn]
 |box S x=>
  grind[I.reads,qn,Ba]
 |bslice S n z ps=>
  grind[I.reads,qn,Cr]
 |_=>rfl
theorem IM{s:St}{p:Nat}{i:I}{d:D}{e:Ent}(h:qn s p i=some (d,e)):p<s.m.length:=by
 rcases sac p s.m.length with a|a
 .omega
 .have hn:=List.getElem?_eq_none a;cases i<;>simp[qn,hn]at h
def Cy:Option Nat->St->RI->List Nat
 |some p,_,.op ..=>[p]
 |some _,s,.call _ _ _ args=>Jb s args
 |none,s,r=>Im s r
def Pm(P:Program) (o:Option Nat) (r:RI) (s:St) (d:D) (x:List Ent) (w:Option (Nat×Ent)):Prop:=
 match o with
 |none=>Ev P r s d x w
 |some p=>(∃dst i e,r=.op dst none i/\x=[]/\w=some (p,e)/\qn s p i=some (d,e))\/
  (∃dst f args k first caps e,r=.call dst none f args/\x=[]/\w=some (p,e)/\s.cv f=.fn k first caps/\p∈Jb s args/\(∀id∈Jb s args,id<s.m.length)/\
   ∀m,(∀id∈Jb s args,m[id]?=s.m[id]?)->CallT P k (first++args.map s.ev++caps) m λd' m'=>d'=d/\m'=m.set p e)
def pO(pl:List (Option Nat)) (i:Nat):Option Nat:=pl.getD i none
theorem DQ{pl:List (Option Nat)}{k:Nat}:(pl.drop k).headD none=pO pl k:=by
 simp_all[pO]
theorem tail_drop{pl:List (Option Nat)}{k:Nat}:(pl.drop k).tail=pl.drop (k+1):=by simp
theorem G5{xx:Nat->List Ent}{L:Nat->Bool}(m:List Ent):∀n,m.length<=(mS xx L m n).length
 |0=>dab _
 |n+1=>by
  have:=G5 (xx:=xx) (L:=L) m n
  grind[mS]
def Fx(P:Program):List (Option Nat)->List RI->St->Os->List (List Nat)->St->Prop
 |_,[],s,os,rs,s'=>os=[]/\rs=[]/\s'=s
 |pl,r::l,s,os,rs,s'=>∃d x w os' a,os=(d,x,w)::os'/\rs=Cy (pl.headD none) s r::a/\Pm P (pl.headD none) r s d x w/\Fx P pl.tail l (Zk s r d x w) os' a s'
section
variable {P:Program}
theorem Fx.length:∀{l:List RI}{pl:List (Option Nat)}{s s':St}{os:Os}{rs:List (List Nat)},Fx P pl l s os rs s'->os.length=l.length
 |[],pl,s,s',os,rs,h=>by simp[h.1]
 |r::l,pl,s,s',os,rs,h=>by
  obtain⟨d,x,w,os',rs',rfl,rfl,_,h⟩:=h;simp[Fx.length h]
theorem Pm.lt{o:Option Nat}{r:RI}{s:St}{d:D}{x:List Ent}{w:Option (Nat×Ent)}(h:Pm P o r s d x w) {id:Nat}{e:Ent}(hw:w=some (id,e)):id<s.m.length/\x=[]/\id∈Cy o s r:=by
 cases o with
 |none=>exact Ev.lt h hw
 |some p=>
  rcases h with⟨dst,i,e',rfl,hx,a,hf⟩|⟨dst,f,args,k,first,caps,e',rfl,hx,a,hf,c,hl,_⟩
  .rw[a]at hw;injection hw with hw;injection hw with b h2;subst b;exact⟨IM hf,hx,by simp[Cy]⟩
  .rw[a]at hw;injection hw with hw;injection hw with b h2;subst b;exact⟨hl _ c,hx,c⟩
theorem Fx.get{pl:List (Option Nat)}{rl:List RI}{os:Os}{s0:St}:∀{l:List RI}{k:Nat}{s':St}{os':Os}{rs:List (List Nat)},l=(rl.drop k).take l.length->os'=(os.drop k).take os'.length->
 (∀j,j<k->∀id e,TQ os j=some (id,e)->id<(mS (kI os) (λ_=>true) s0.m k).length)->Fx P (pl.drop k) l (Mn rl os s0 (λ_=>true) k) os' rs s'->
 (∀i,i<l.length->Pm P (pO pl (k+i)) (rl.getD (k+i) KQ) (Mn rl os s0 (λ_=>true) (k+i)) (w7 os (k+i)) (kI os (k+i)) (TQ os (k+i))/\rs.getD i []=Cy (pO pl (k+i)) (Mn rl os s0 (λ_=>true) (k+i)) (rl.getD (k+i) KQ))/\s'=Mn rl os s0 (λ_=>true) (k+l.length)
 |[],k,s',os',rs,_,_,_,h=>⟨λi hi=>by grind,by simpa using h.2.2⟩
 |r::l,k,s',os',rs,s,h2,hv,h=>by
  obtain⟨d,x,w,a,rs',rfl,rfl,n,h⟩:=h;rw[DQ]at n;rw[tail_drop]at h;have hr:rl[k]?=some r:=by
   have:=congrArg (λl=>l[0]?) s
   grind
  have ho:os[k]?=some (d,x,w):=by
   have:=congrArg (λl=>l[0]?) h2
   grind
  have g:rl.getD k KQ=r:=by simp_all
  have ho':os.getD k os0=(d,x,w):=by simp_all
  have hd:w7 os k=d:=by grind[w7]
  have hx:kI os k=x:=by grind[kI]
  have hw:TQ os k=w:=by grind[TQ]
  have hds:ER rl k=r.dst:=by grind[ER]
  have c:mS (kI os) (λ_=>true) s0.m (k+1)=mS (kI os) (λ_=>true) s0.m k++x:=by grind[mS]
  have b:Zk (Mn rl os s0 (λ_=>true) k) r d x w=Mn rl os s0 (λ_=>true) (k+1):=by
   rw[BF];simp only[Mn,tS,if_true,St.mk.injEq];refine⟨by grind,?_⟩;rw[c];simp only[sS,if_true,hw];rw[uP _ _ _ λj q _ id e he=>hv j q id e he]
   cases w with
   |none=>rfl
   |some p=>
    obtain⟨id,e⟩:=p;obtain⟨_,hx0,_⟩:=n.lt rfl
    grind[wr]
  have o:∀j,j<k+1->∀id e,TQ os j=some (id,e)->id<(mS (kI os) (λ_=>true) s0.m (k+1)).length:=by
   intro j q id e he;rw[c,uab];by_cases f:j=k
   .subst f;rw[hw]at he;have:=(n.lt he).1
    grind[Mn,vo]
   .have:=hv j (by omega) id e he;omega
  rw[b]at h;have t1:l=(rl.drop (k+1)).take l.length:=by
   grind[Fab]
  have t2:a=(os.drop (k+1)).take a.length:=by
   grind[Fab]
  obtain⟨g1,g2⟩:=Fx.get t1 t2 o h;refine⟨λi hi=>?_,by grind⟩
  cases i with
  |zero=>simp only[Nat.add_zero,g,hd,hx,hw];grind[DQ]
  |succ i=>
   have:=g1 i (by grind)
   grind
theorem VY{ops:Array Oper}{o:Oper}{r:RI}(hc:Eo P ops o=some r) {sc s:St}{d:D}{x:List Ent}{O:Option (Nat×Ent)}{N:Option Nat}(hf:Pm P N r sc d x O) (ht:∀t∈r.reads,s.t.getD t .dead=sc.t.getD t .dead)
 (hm:N=none->r.cls=2->s.m.length=sc.m.length) (J:∀(id:Nat),id∈Cy N sc r->(∃e,sc.m[id]?=some e)->id<s.m.length->s.m[id]?=sc.m[id]?) (B:∀p,N=some p->p<s.m.length)
 {G:Gh} {w:World} {a:Act} (hr:Rel G w a s) {i:Nat} (hi:ops[i]?=some o) {Q:Exit->Act->World->Prop} {K:Act->World->Prop}
 (S:∀G' w' a',Rel G' w' a' (Zk s r d x O)->Step G w s.m G' w' (wr s.m O++x)->(∀id e,O=some (id,e)->id<s.m.length)->K a' w'):wpOp P ops Q i K a w:=by
 cases N with
 |none=>exact UY hc hf ht (hm rfl) J hr hi S
 |some p=>
  rcases hf with⟨dst,j,e,rfl,rfl,rfl,E⟩|⟨dst,f,args,k,first,caps,e,rfl,rfl,rfl,hfe,hpt,I,C⟩
  rotate_left
  .have A:=tw hc;have hp:=B p rfl;unfold wpOp;simp only[hi];unfold Eo at hc;split at hc
   .grind
   .rename_i g T;split at hc
    .rename_i f' args' ho;injection hc with hc;injection hc with h1 h2 R h4;subst h2;subst R;subst h4;obtain⟨b,y⟩:=sn hr T;rw[if_pos (b rfl o rfl)];refine .inl ?_;have H:s.cv f'=.fn k first caps:=by grind[RI.reads,NF]
     have c:args'.map s.ev=args'.map sc.ev:=map_congr (λt h=>ht t (by grind[RI.reads]));obtain⟨⟨fn,Y,Z,e3⟩,F⟩:=C s.m λid z=>by
      refine J id z ⟨_,Maa (I id z)⟩ ?_;rw[sD,←c]at z;rw[←hr.inv.n];exact Ut (Ny hr _) z
     obtain⟨fs,cs,L,V,W⟩:=Fy hr ho (pU H) Y Z e3;rw[←c]at F;have l:=F G w (fs++args'.map a.eval++cs) ((V.append (Ny hr _)).append W) hr.inv;unfold Oper.wp;rw[L,Oper.upon_enter];refine l.mono ?_;rintro e0 w' ⟨v,d',m',G',rfl,⟨rfl,rfl⟩,X,U,M⟩;refine S G' w' _ ?_ (by grind[wr]) (λid e' h=>by simp_all);unfold Zk;rw[vab];rw[A];exact(hr.step M.le U).put o.dst X
    simp_all
  have A:=tw hc;have hp:=B p rfl;have hat:=IM E;have q:qn s p j=some (d,e):=by
   grind[RI.reads,Cy,JM]
  unfold wpOp;simp only[hi];unfold Eo at hc;split at hc
  .grind
  .rename_i g T;split at hc
   .simp_all
   .rename_i hno;simp only[Paa]at hc;obtain⟨j',hj,h⟩:=hc;injection h with h1 h2 R;subst h2;subst R;obtain⟨b,y⟩:=sn hr T;rw[if_pos (b rfl o rfl)];refine .inl ?_;exact hr.ir (AP hj hr q) λG' w' u hr' M=>S G' w' _ (by grind[Zk,wr]) (by grind[wr]) (λid e' h=>by simp_all)
end
def wB(o:Option Nat):RI->Bool
 |.op _ _ i=>o.isSome || i.dT.isSome
 |.call ..=>o.isSome
def lB(o:Option Nat):RI->Bool
 |.op _ _ i=>o.isSome || i.dT.isSome || i.Q4.isSome
 |.call ..=>true
def Lv(o a:Option Nat) (x y:RI):Bool:=(wB o x&&lB a y) || (wB a y&&lB o x)
def rv(o a:Option Nat) (x y:RI):Bool:=
 (
  match x.dst with
  |some t=>y.reads.contains t || y.dst==some t
  |none=>false) ||
 (
  match y.dst with
  |some t=>x.reads.contains t
  |none=>false) ||
 (o.isNone&&a.isNone&&x.cls==2&&y.cls==2)
def Pu(bs:List (List Nat)) (rl:List RI) (q:Nat) (ps:List (List Nat)) (pl:List (Option Nat)):Bool:=
 let ms:=gx bs
 (Zaa q).all λj=>match rl[j]? with
  |none=>false
  |some y=>((pO pl j).isSome || y.CE)&&(Zaa j).all λi=>match rl[i]? with
   |none=>false
   |some x=>(ms.getD j 0).testBit i || (!rv (pO pl i) (pO pl j) x y&&(!Lv (pO pl i) (pO pl j) x y || (ps.getD j []).contains i))
structure DrawFactsO (bs:List (List Nat)) (rl:List RI) (q:Nat) (ps:List (List Nat)) (pl:List (Option Nat)):Prop extends TailFacts bs rl q where
 CE:∀(j:Nat) y,j<q->rl[j]?=some y->((pO pl j).isSome || y.CE)=true
 apart:∀(i j:Nat) x y,i<j->j<q->rl[i]?=some x->rl[j]?=some y->rv (pO pl i) (pO pl j) x y=true->((gx bs).getD j 0).testBit i=true
 pairs:∀(i j:Nat) x y,i<j->j<q->rl[i]?=some x->rl[j]?=some y->Lv (pO pl i) (pO pl j) x y=true->((gx bs).getD j 0).testBit i=true\/i∈ps.getD j []
theorem sI{bs:List (List Nat)}{rl:List RI}{q:Nat}{ps:List (List Nat)}{pl:List (Option Nat)}(ht:TailFacts bs rl q) (h:Pu bs rl q ps pl=true):DrawFactsO bs rl q ps pl:=by
 unfold Pu at h;simp only[Nab,Gac]at h;refine⟨ht,?_,?_,?_⟩
 all_goals grind
section
variable {P:Program} {ops:Array Oper} {Q:Exit->Act->World->Prop} {K:St->Prop} {rl:List RI} {q:Nat} {ps:List (List Nat)} {pl:List (Option Nat)}
theorem HJ{o a:Option Nat}{s:St}{x y:RI}{id:Nat}(hx:id∈Cy o s x) (hy:wB a y=true):Lv o a x y=true:=by
 have h:lB o x=true:=by
  cases o with
  |some p=>cases x<;>simp[lB]
  |none=>
   cases x with
   |call=>rfl
   |op d g i=>
    grind[Cy,Im,lB]
 grind[Lv]
theorem qO{o a:Option Nat}{x y:RI}:Lv o a x y=Lv a o y x:=by grind[Lv]
theorem Pm.wB{o:Option Nat}{r:RI}{s:St}{d:D}{x:List Ent}{p:Nat×Ent}(h:Pm P o r s d x (some p)):Go.Tm.wB o r=true:=by
 cases o with
 |some p=>cases r<;>rfl
 |none=>
  cases r with
  |call=>obtain⟨_,h,_⟩:=h;cases h
  |op d g i=>
   rcases h with⟨_,⟨h,_⟩|⟨_,a,_,_,h,_⟩⟩|⟨_,_,_,h⟩
   all_goals grind[Go.Tm.wB]
theorem tO(hc:sg P ops ops.toList=some rl) (hf:DrawFactsO (zb ops) rl q ps pl) {os:Os}{s0:St}
 (J:∀i,i<q->Pm P (pO pl i) (rl.getD i KQ) (Mn rl os s0 (λ_=>true) i) (w7 os i) (kI os i) (TQ os i))
 (hpl:∀i p,pO pl i=some p->p<s0.m.length)
 (C:∀i,i<q->kI os i≠[]->(rl.getD i KQ).cls=2/\pO pl i=none)
 (hap:∀i j,i<j->j<q->i∈ps.getD j []->∀id,id∈Cy (pO pl i) (Mn rl os s0 (λ_=>true) i) (rl.getD i KQ)->id∉Cy (pO pl j) (Mn rl os s0 (λ_=>true) j) (rl.getD j KQ))
 (hT:Lj P (rl.drop q) K (Mn rl os s0 (λ_=>true) q)) :
 ∀(fuel:Nat) (listed:Array Bool) (G:Gh) (w:World) (a:Act),((Zaa ops.size).filter λj=>!ud listed j).length<=fuel->listed.size=ops.size->Closed (zb ops) (ud listed)->
  (∀j,q<=j->ud listed j=false)->Rel G w a (Mn rl os s0 (ud listed) q)->(∀j,j<q->ud listed j=true->∀id e,TQ os j=some (id,e)->id<(mS (kI os) (ud listed) s0.m q).length)->
  (∀s' G' w' a',K s'->Rel G' w' a' s'->Step G w (Mn rl os s0 (ud listed) q).m G' w' s'.m->Q .normal a' w')->wpAny P .any ops Q fuel listed a w:=by
 obtain⟨Z,X⟩:=Mu hc;simp only[Jac]at Z;have hq:=hf.hq;have f:∀{L L':Nat->Bool},(∀j,j<q->L j=L' j)->Mn rl os s0 L q=Mn rl os s0 L' q:=by
  intro L L' h;have hs:∀(m:List Ent) n,n<=q->sS (TQ os) L m n=sS (TQ os) L' m n:=by
   intro m n
   induction n with
   |zero=>intro _;rfl
   |succ n ih=>grind[sS]
  simp only[Mn,St.mk.injEq];exact⟨QH _ _ λj b=>h j b,by rw[IG _ _ λj b=>h j b,hs _ _ (dab _)]⟩
 intro fuel
 induction fuel with
 |zero=>
  intro listed G w a u H I U M hV hQ;have W:∀i,i<ops.size->ud listed i=true:=by
   simp_all
  have hqn:q=ops.size:=by
   rcases sac q ops.size with h|h
   all_goals grind
  have F:Mn rl os s0 (ud listed) q=Mn rl os s0 (λ_=>true) q:=f λj b=>W j (by omega);refine Sy hc hf.toTailFacts 0 q 0 listed _ G w a (by omega) (dab _) (dab _) (by omega) H (λi=>?_) hT (by simp_all) (by grind)
  grind
 |succ fuel ih=>
  intro listed G w a u H I U M hV hQ;by_cases c:∀j,j<q->ud listed j=true
  .have F:Mn rl os s0 (ud listed) q=Mn rl os s0 (λ_=>true) q:=f λj b=>c j b;have o:∀i,ud listed i=decide (i<q):=λi=>by
    grind
   have hcnt:=count_tail q ops.size;simp only[o]at u;exact Sy hc hf.toTailFacts (ops.size-q) q (fuel+1) listed _ G w a rfl (by omega) (dab _) (by omega) H o hT (by simp_all) (by grind)
  .refine⟨λhno=>(c λj b=>my hf.toTailFacts H hno j (by omega)).elim,λi hi=>?_⟩;obtain⟨h1,h2,h3,h4,V⟩:=Yu hf.toTailFacts H I hi;have d:i<q:=by
    rcases sac i q with h|h
    .exact h
    .exact(c λj b=>h3 j (by omega) (hf.tail j i (by omega) h (by omega))).elim
   have A:∀j,j<q->rl[j]?=some (rl.getD j KQ):=λj b=>getD_some (by omega) _;obtain⟨r,hr,hco⟩:=X i ops[i] (by simp);have hrr:rl.getD i KQ=r:=by grind
   have early:∀j x,j<i->rl[j]?=some x->rv (pO pl j) (pO pl i) x r=true->ud listed j=true:=λj x b hx v=>h3 j (by omega) (hf.apart j i x r b d hx hr v);have late:∀j y,i<j->j<q->rl[j]?=some y->rv (pO pl i) (pO pl j) r y=true->ud listed j=false:=by
    intro j y b S hy v;rcases hb:ud listed j with _|_
    .rfl
    .have:=Kt I hb (hf.apart i j r y b S hr hy v)
     grind
   have hF:=J i d;rw[hrr]at hF;have z:∀(k l:Nat) (x y:RI),(x.cls=2/\pO pl k=none)->(y.cls=2/\pO pl l=none)->rv (pO pl k) (pO pl l) x y=true:=λk l x y hx hy=>by grind[rv]
   have ordered:∀j,j<q->∀id e,TQ os j=some (id,e)->id∈Cy (pO pl i) (Mn rl os s0 (λ_=>true) i) r->(ud listed j=true↔j<i):=by
    intro j b id e hw E;have N:=J j b;have T:=N.lt hw;have F:Go.Tm.wB (pO pl j) (rl.getD j KQ)=true:=by rw[hw]at N;exact N.wB
    rcases Nat.lt_trichotomy j i with B|B|B
    .refine⟨λ_=>B,λ_=>?_⟩;have O:Lv (pO pl j) (pO pl i) (rl.getD j KQ) r=true:=by grind[qO,HJ]
     rcases hf.pairs j i _ r B d (A j b) hr O with h|h
     all_goals grind
    .grind
    .refine⟨λo=>?_,λh=>by omega⟩;have O:Lv (pO pl i) (pO pl j) r (rl.getD j KQ)=true:=HJ E F;rcases hf.pairs i j r _ B b hr (A j b) O with h|h
     all_goals grind[Kt]
   refine VY hco hF (s:=Mn rl os s0 (ud listed) q) ?_ ?_ ?_ ?_ M (Zab h1) ?_
   .intro y hy;refine GN s0.t (by omega) λj b hd=>?_;have hxj:=A j b
    grind[ER,rv]
   .intro hpo hcls;simp only[Mn,vo];refine congrArg List.length (dN s0.m (Nat.le_of_lt d) λj b hx=>?_)
    grind
   .rintro id E ⟨e,he⟩ R;obtain⟨k,hk,hmk'⟩:=RC (xx:=kI os) (L:=ud listed) s0.m q λi1 j1 Y b hx1 hx2 hL1=>
     Kt I hL1 (hf.apart i1 j1 _ _ Y b (A i1 (by omega)) (A j1 b) (z _ _ _ _ (C i1 (by omega) hx1) (C j1 b hx2)))
    simp only[Mn,vo]at he R⊢;have T:id<(mS (kI os) (λ_=>true) s0.m i).length:=by
     grind[vo]
    rw[HH _ _ _ R,HH _ _ _ T,WO (by omega) λj b e hw=>ordered j b id e hw E];have hbase:(mS (kI os) (ud listed) s0.m q)[id]?=(mS (kI os) (λ_=>true) s0.m i)[id]?:=by
     rw[hmk']at R⊢;rcases Wae i k with h|h
     .obtain⟨rr,hrr'⟩:=kF (xx:=kI os) s0.m h
      grind
     .obtain⟨rr,hrr'⟩:=kF (xx:=kI os) s0.m h
      grind
    grind
   .grind[Mn,vo,G5]
   .intro G' w' a' D hs' T;have g:mS (kI os) (ud (listed.setIfInBounds i true)) s0.m q=mS (kI os) (ud listed) s0.m q++kI os i:=by
     refine vQ s0.m h2 V d ?_
     grind
    have F:Zk (Mn rl os s0 (ud listed) q) r (w7 os i) (kI os i) (TQ os i)=Mn rl os s0 (ud (listed.setIfInBounds i true)) q:=by
     rw[BF];simp only[Mn,St.mk.injEq];constructor
     .rw[NQ s0.t h2 V d ?_]
      all_goals grind[ER,rv]
     .rw[g,F2 _ h2 V d ?_]
      .rw[uP _ _ _ λj b o id e he=>hV j b o id e he]
       cases hw:TQ os i with
       |none=>rfl
       |some p=>
        obtain⟨id,e⟩:=p;have:=(hF.lt hw).2.1
        grind[wr]
      .intro j Y S o id e e' hwi hwj;have:=(ordered j S id e' hwj (hF.lt hwi).2.2).1 o;omega
    rw[F]at D;refine ih (listed.setIfInBounds i true) G' w' a' ?_ (by grind) h4 ?_ D ?_ ?_
    .have:=filter_lt h2 V (l:=Zaa ops.size) (by grind);omega
    .grind
    .intro j b o id e he;rw[g,uab];rw[V,Dad,beq_iff_eq]at o;rcases o with o|rfl
     all_goals grind[Mn,vo]
    .intro s'' G'' w'' a'' k1 k2 k3;refine hQ s'' G'' w'' a'' k1 k2 (hs'.trans ?_)
     grind[BF]
end
def Qn(P:Program):List (Option Nat)->List (List Nat)->List (List Nat)->Nat->List RI->(St->Prop)->St->Prop
 |_,_,_,0,l,K,s=>Lj P l K s
 |_,_,_,_+1,[],_,_=>False
 |pl,ps,fp,q+1,.op dst g i::l,K,s=>
  match pl.headD none with
  |some p=>FA fp [p] (ps.headD [])=true/\g=none/\∃d e,qn s p i=some (d,e)/\Qn P pl.tail ps.tail (fp++[[p]]) q l K ({ s with m:=s.m.set p e }.put dst d)
  |none=>
   FA fp (Im s (.op dst g i)) (ps.headD [])=true/\
   match gate s g with
   |none=>False
   |some none=>∃d m',Ff s i=true/\fa s i=some (d,m')/\Qn P pl.tail ps.tail (fp++[Im s (.op dst g i)]) q l K ({ s with m:=m' }.put dst d)
   |some (some (c,b))=>(c=b->∃d m',Ff s i=true/\fa s i=some (d,m')/\Qn P pl.tail ps.tail (fp++[Im s (.op dst g i)]) q l K ({ s with m:=m' }.put dst d))/\(c≠b->Qn P pl.tail ps.tail (fp++[Im s (.op dst g i)]) q l K (s.put dst (.v undef)))
 |pl,ps,fp,q+1,.call dst g f args::l,K,s=>
  match pl.headD none,s.cv f with
  |some p,.fn k first caps=>g=none/\p∈Jb s args/\FA fp (Jb s args) (ps.headD [])=true/\∃d e,((∀id∈Jb s args,id<s.m.length)/\∀m,(∀id∈Jb s args,m[id]?=s.m[id]?)->CallT P k (first++args.map s.ev++caps) m λd' m'=>d'=d/\m'=m.set p e)/\Qn P pl.tail ps.tail (fp++[Jb s args]) q l K ({ s with m:=s.m.set p e }.put dst d)
  |none,.fn k first caps=>
   match gate s g with
   |none=>False
   |some none=>FA fp (Jb s args) (ps.headD [])=true/\∃d,((∀id∈Jb s args,id<s.m.length)/\∀m,(∀id∈Jb s args,m[id]?=s.m[id]?)->CallT P k (first++args.map s.ev++caps) m λd' m'=>d'=d/\m'=m)/\Qn P pl.tail ps.tail (fp++[Jb s args]) q l K (s.put dst d)
   |some (some (c,b))=>FA fp (Jb s args) (ps.headD [])=true/\(c=b->∃d,((∀id∈Jb s args,id<s.m.length)/\∀m,(∀id∈Jb s args,m[id]?=s.m[id]?)->CallT P k (first++args.map s.ev++caps) m λd' m'=>d'=d/\m'=m)/\Qn P pl.tail ps.tail (fp++[Jb s args]) q l K (s.put dst d))/\(c≠b->Qn P pl.tail ps.tail (fp++[Jb s args]) q l K (s.put dst (.v undef)))
  |none,_=>FA fp (Jb s args) (ps.headD [])=true/\(∃c b,gate s g=some (some (c,b))/\c≠b)/\Qn P pl.tail ps.tail (fp++[Jb s args]) q l K (s.put dst (.v undef))
  |_,_=>False
section
variable {P:Program} {K:St->Prop}
theorem FQ{pl:List (Option Nat)}{j:Nat}:pO pl.tail j=pO pl (j+1):=by grind[pO]
theorem SA:∀{q:Nat}{l:List RI}{s:St}{pl:List (Option Nat)}{ps:List (List Nat)}{fp:List (List Nat)},Qn P pl ps fp q l K s->(∀(j:Nat) y,j<q->l[j]?=some y->((pO pl j).isSome || y.CE)=true)->
 ∃os rs s1,Fx P pl (l.take q) s os rs s1/\Lj P (l.drop q) K s1/\(∀j,j<q->∀i∈ps.getD j [],i<fp.length+j->Zp ((fp++rs).getD i []) (rs.getD j [])=true)
 |0,l,s,pl,ps,fp,h,_=>⟨[],[],s,by simp[Fx],by simpa [Qn] using h,λj E=>by omega⟩
 |q+1,[],s,pl,ps,fp,h,_=>by simp[Qn]at h
 |q+1,.op dst g i::l,s,pl,ps,fp,h,hc=>by
  have A:∀(j:Nat) y,j<q->l[j]?=some y->((pO pl.tail j).isSome || y.CE)=true:=λj y E Q=>by grind[FQ]
  simp only[Qn]at h;have join:∀{s2:St} {d x w},FA fp (Cy (pl.headD none) s (.op dst g i)) (ps.headD [])=true->Pm P (pl.headD none) (.op dst g i) s d x w->Zk s (.op dst g i) d x w=s2->Qn P pl.tail ps.tail (fp++[Cy (pl.headD none) s (.op dst g i)]) q l K s2->
   ∃os rs s1,Fx P pl ((RI.op dst g i::l).take (q+1)) s os rs s1/\Lj P ((RI.op dst g i::l).drop (q+1)) K s1/\(∀j,j<q+1->∀i∈ps.getD j [],i<fp.length+j->Zp ((fp++rs).getD i []) (rs.getD j [])=true):=by
   intro s2 d x w n O hs r;obtain⟨os,rs,s1,I,h2,J⟩:=SA r A;refine⟨(d,x,w)::os,Cy (pl.headD none) s (.op dst g i)::rs,s1,by simp only[Mab,Fx];grind,by simp_all,λj E k hk H=>?_⟩
   cases j with
   |zero=>
    have F:k∈ps.headD []:=by cases ps with|nil=>simp at hk|cons a b=>simp_all
    have G:k<fp.length:=by omega
    have B:(fp++Cy (pl.headD none) s (.op dst g i)::rs).getD k []=fp.getD k []:=by
     grind
    grind[XE]
   |succ j=>
    grind[zab]
  split at h
  .rename_i p z;obtain⟨n,rfl,d,e,hf,r⟩:=h;exact join (d:=d) (x:=[]) (w:=some (p,e)) (by rw[z];exact n) (by rw[z];exact .inl ⟨dst,i,e,rfl,rfl,rfl,hf⟩) (show Zk s (.op dst none i) d [] (some (p,e))=({ s with m:=s.m.set p e }:St).put dst d by grind[Zk,wr,RI.dst]) (by rw[z];exact r)
  .rename_i z;have L:(RI.op dst g i).CE=true:=by
    have:=hc 0 _ (by omega) rfl;have h0:pO pl 0=none:=by rw[←z];cases pl<;>rfl
    simp_all
   simp only[z,Cy,Pm]at join;obtain⟨n,h⟩:=h;have on:∀{d:D} {m':List Ent},Ff s i=true->fa s i=some (d,m')->(gate s g=some none\/∃c,gate s g=some (some (c,c)))->Qn P pl.tail ps.tail (fp++[Im s (.op dst g i)]) q l K ({ s with m:=m' }.put dst d)->
    ∃os rs s1,Fx P pl ((RI.op dst g i::l).take (q+1)) s os rs s1/\Lj P ((RI.op dst g i::l).drop (q+1)) K s1/\(∀j,j<q+1->∀i∈ps.getD j [],i<fp.length+j->Zp ((fp++rs).getD i []) (rs.getD j [])=true):=by
    intro d m' C he u r;simp only[RI.CE,Dad,decide_eq_true_eq]at L;by_cases M:i.cls<=2
    .have ext:∃x,m'=s.m++x:=by
      rcases sac i.cls 2 with h2|h2
      .exact⟨[],by rw[vab];exact(Np (s:=s) (s':=s) (by omega) (λ_ _=>rfl) (λ_ _ _ _=>rfl) he).1⟩
      .obtain⟨e,h,_⟩:=LD (s:=s) (s':=s) (by omega) (λ_ _=>rfl) rfl he
       simp_all
     obtain⟨x,rfl⟩:=ext;exact join n (x:=x) (w:=none) (.inl ⟨u,.inl ⟨rfl,M,he⟩⟩) rfl r
    .have ht:i.dT.isSome=true:=by simp_all
     obtain⟨a,ha⟩:=Option.isSome_iff_exists.1 ht;obtain⟨id,e,I,rfl,J,h4⟩:=rJ ha C he;refine join n (x:=[]) (w:=some (id,e)) (.inl ⟨u,.inr ⟨rfl,a,id,e,ha,I,rfl,he,?_,C⟩⟩) ?_ r
     all_goals grind[Zk,wr,RI.dst]
   have off:(∃c b,gate s g=some (some (c,b))/\c≠b)->Qn P pl.tail ps.tail (fp++[Im s (.op dst g i)]) q l K (s.put dst (.v undef))->
    ∃os rs s1,Fx P pl ((RI.op dst g i::l).take (q+1)) s os rs s1/\Lj P ((RI.op dst g i::l).drop (q+1)) K s1/\(∀j,j<q+1->∀i∈ps.getD j [],i<fp.length+j->Zp ((fp++rs).getD i []) (rs.getD j [])=true):=λu r=>
    join n (d:=.v undef) (x:=[]) (w:=none) (.inr ⟨u,rfl,rfl,rfl⟩) (by simp_all[Zk,wr,RI.dst]) r
   split at h
   .simp_all
   .grind
   .rename_i c b u;by_cases t:c=b
    .subst t;obtain⟨d,m',C,he,r⟩:=h.1 rfl
     simp_all
    .exact off ⟨c,b,u,t⟩ (h.2 t)
 |q+1,.call dst g f args::l,s,pl,ps,fp,h,hc=>by
  have A:∀(j:Nat) y,j<q->l[j]?=some y->((pO pl.tail j).isSome || y.CE)=true:=λj y E Q=>by grind[FQ]
  rcases z:pl.headD none with _|p
  rotate_left
  .simp only[Qn]at h
   cases hf:s.cv f with
   |fn k first caps=>
    simp only[z,hf]at h;obtain⟨rfl,N,n,d,e,o,r⟩:=h;obtain⟨os,rs,s1,I,h2,J⟩:=SA r A;refine⟨(d,[],some (p,e))::os,Jb s args::rs,s1,?_,by simp_all,λj E k hk H=>?_⟩
    .simp only[Mab,Fx,z];refine⟨d,[],some (p,e),os,rs,rfl,rfl,.inr ⟨dst,f,args,k,first,caps,e,rfl,rfl,rfl,hf,N,o.1,o.2⟩,?_⟩
     grind[Zk,wr,RI.dst]
    .cases j with
     |zero=>
      have F:k∈ps.headD []:=by cases ps with|nil=>simp at hk|cons a b=>simp_all
      have G:k<fp.length:=by omega
      have B:(fp++Jb s args::rs).getD k []=fp.getD k []:=by
       grind
      grind[XE]
     |succ j=>
      grind[zab]
   |_=>simp only[z,hf]at h
  have haf:∀d,Zk s (.call dst g f args) d [] none=s.put dst d:=λd=>by simp_all[Zk,wr,RI.dst]
  have join:∀{d},FA fp (Jb s args) (ps.headD [])=true->Ev P (.call dst g f args) s d [] none->Qn P pl.tail ps.tail (fp++[Jb s args]) q l K (s.put dst d)->
   ∃os rs s1,Fx P pl ((RI.call dst g f args::l).take (q+1)) s os rs s1/\Lj P ((RI.call dst g f args::l).drop (q+1)) K s1/\(∀j,j<q+1->∀i∈ps.getD j [],i<fp.length+j->Zp ((fp++rs).getD i []) (rs.getD j [])=true):=by
   intro d n O r;obtain⟨os,rs,s1,I,h2,J⟩:=SA r A;refine⟨(d,[],none)::os,Jb s args::rs,s1,by simp only[Mab,Fx,z,Cy,Im,Pm];grind,by simp_all,λj E k hk H=>?_⟩
   cases j with
   |zero=>
    have F:k∈ps.headD []:=by cases ps with|nil=>simp at hk|cons a b=>simp_all
    have G:k<fp.length:=by omega
    have B:(fp++Jb s args::rs).getD k []=fp.getD k []:=by
     grind
    grind[XE]
   |succ j=>
    grind[zab]
  simp only[Qn]at h
  cases hf:s.cv f with
  |fn k first caps=>
   simp only[z,hf]at h;split at h
   .simp_all
   .rename_i u;obtain⟨n,d,o,r⟩:=h;exact join n ⟨rfl,rfl,.inl ⟨k,first,caps,hf,.inl u,o⟩⟩ r
   .rename_i c b u;obtain⟨n,h⟩:=h;by_cases t:c=b
    .subst t;obtain⟨d,o,r⟩:=h.1 rfl;exact join n ⟨rfl,rfl,.inl ⟨k,first,caps,hf,.inr ⟨c,u⟩,o⟩⟩ r
    .exact join n ⟨rfl,rfl,.inr ⟨⟨c,b,u,t⟩,rfl⟩⟩ (h.2 t)
  |_=>
   simp only[z,hf]at h;obtain⟨n,⟨c,b,u,t⟩,r⟩:=h;exact join n ⟨rfl,rfl,.inr ⟨⟨c,b,u,t⟩,rfl⟩⟩ r
end
section
variable {P:Program} {N:Nat} {ops:Array Oper} {Q:Exit->Act->World->Prop} {K:St->Prop} {rl:List RI} {q:Nat} {ps:List (List Nat)} {pl:List (Option Nat)}
theorem Zz(Ho:P.follows .mixedOrders=true) (hc:sg P ops ops.toList=some rl) (hf:DrawFactsO (zb ops) rl q ps pl) {s:St}(B:Qn P pl ps [] q rl K s) (u:∀i p,pO pl i=some p->p<s.m.length)
 {id:Nat} {G:Gh} {w:World} {a:Act} (hr:Rel G w a s) (hQ:∀s' G' w' a',K s'->Rel G' w' a' s'->Step G w s.m G' w' s'.m->Q .normal a' w'):(Code.region id ops true).wp P Q a w:=by
 obtain⟨os,rs,s1,x,C,hap⟩:=SA B hf.CE;have c:(rl.take q).length=q:=by rw[mad];have:=hf.hq;omega
 have e:=x.length;rw[c]at e;have A:Mn rl os s (λ_=>true) 0=s:=rfl;obtain⟨g1,g2⟩:=Fx.get (pl:=pl) (rl:=rl) (os:=os) (s0:=s) (k:=0) (l:=rl.take q) (os':=os) (s':=s1) (rs:=rs) (by simp) (by simp) (λj hj=>by omega) (by rw[A];exact x);simp only[c,eac]at g1 g2;subst g2;have r:∀j,ud (jac ops.size false) j=false:=by
  intro j;unfold ud;simp only[aad,Nad]
  grind
 have d:Mn rl os s (ud (jac ops.size false)) q=s:=by
  have ht:∀n,tS (ER rl) (w7 os) (ud (jac ops.size false)) s.t n=s.t:=by
   intro n
   induction n with
   |zero=>rfl
   |succ n z=>simp_all[tS]
  have hm:∀n,mS (kI os) (ud (jac ops.size false)) s.m n=s.m:=by
   intro n
   induction n with
   |zero=>rfl
   |succ n z=>simp_all[mS]
  have hw:∀n,sS (TQ os) (ud (jac ops.size false)) s.m n=s.m:=by
   intro n
   induction n with
   |zero=>rfl
   |succ n z=>simp_all[sS]
  grind[Mn]
 refine wp_region_any Ho ?_;have v:=Same.drew w;refine tO hc hf (λi hi=>(g1 i hi).1) u ?_ ?_ C ops.size _ G _ a ?_ (by simp) ?_ (λj _=>r j) ?_ (λj _ h=>by simp_all) ?_
 .intro i hi hx;have h:=(g1 i hi).1;rcases y:pO pl i with _|p
  .rw[y]at h;refine⟨?_,rfl⟩
   cases o:rl.getD i KQ with
   |call dst g f args=>
    rw[o]at h;obtain⟨h,_⟩:=h
    simp_all
   |op dst g j=>
    rw[o]at h;rcases h with⟨-,⟨_,hcl,h⟩|⟨h,_⟩⟩|⟨-,-,h,_⟩
    .simp only[RI.cls];rcases sac j.cls 2 with h2|h2
     .obtain⟨hm,-⟩:=Np (s:=Mn rl os s (λ_=>true) i) (s':=Mn rl os s (λ_=>true) i) (by omega) (λ_ _=>rfl) (λ_ _ _ _=>rfl) h
      simp_all
     omega
    all_goals simp_all
  .rw[y]at h;rcases h with⟨_,_,_,_,h,_⟩|⟨_,_,_,_,_,_,_,_,h,_⟩
   all_goals simp_all
 .grind[dJ]
 .grind
 .intro i b _ hi
  simp_all
 .rw[d];exact⟨hr.t.mono (v.le G),v.inv hr.inv,hr.defers⟩
 .intro s' G' w' a' D E k3;rw[d]at k3;exact hQ s' G' w' a' D E ((v.step G s.m).trans k3)
def Ds(m:List Ent) (pl:List (Option Nat)):Bool:=pl.all λo=>match o with|some p=>decide (p<m.length)|none=>true
theorem jW{m:List Ent}{pl:List (Option Nat)}(h:Ds m pl=true):∀i p,pO pl i=some p->p<m.length:=by
 intro i p a;unfold Ds at h;rw[Nab]at h;unfold pO at a;have hm:some p∈pl:=by
  grind
 grind
theorem T.anyO(hm:P.follows .mixedOrders=true) {cuts:List Nat}{bs:List (List Nat)}{l:List RI}{K:Exit->St->Prop}{s:St}(ps:List (List Nat)) (pl:List (Option Nat)) (c:Pu bs l q ps pl=true) (d:Ds s.m pl=true) (h:Qn P pl ps [] q l (K .normal) s):T P N (.any cuts q bs l) K s:=by
 intro code hc G w a hN hr;obtain⟨id,ops,rfl,rfl,b,e⟩:=kU hc;exact Zz hm b (sI (AL e).1 c) h (jW d) hr λs' G' w' a' f g k3=>⟨s',G',f,g,k3.EX hN⟩
theorem Ou{K:St->Prop}:∀{q:Nat}{l:List RI}{ps fp:List (List Nat)}{s:St},tx P ps fp q l K s->Qn P [] ps fp q l K s
 |0,l,ps,fp,s,h=>by simpa only[Qn,tx] using h
 |q+1,[],ps,fp,s,h=>by simp[tx]at h
 |q+1,.op dst g i::l,ps,fp,s,h=>by
  simp only[Qn,tx,Qae,Tae]at h⊢;refine⟨h.1,?_⟩;have h2:=h.2
  cases j:gate s g with
  |none=>simp_all
  |some o=>
   cases o with
   |none=>
    simp only[j]at h2⊢;obtain⟨d,m',a,h2,e⟩:=h2;exact⟨d,m',a,h2,Ou e⟩
   |some m=>
    obtain⟨c,b⟩:=m;simp only[j]at h2⊢;refine⟨λhc=>?_,λhc=>Ou (h2.2 hc)⟩;obtain⟨d,m',a,h2,e⟩:=h2.1 hc;exact⟨d,m',a,h2,Ou e⟩
 |q+1,.call dst g f args::l,ps,fp,s,h=>by
  simp only[Qn,tx,Qae,Tae]at h⊢
  cases hf:s.cv f with
  |fn k first caps=>
   simp only[hf]at h⊢
   cases j:gate s g with
   |none=>simp_all
   |some o=>
    cases o with
    |none=>
     simp only[j]at h⊢;obtain⟨n,d,a,e⟩:=h;exact⟨n,d,a,Ou e⟩
    |some m=>
     obtain⟨c,b⟩:=m;simp only[j]at h⊢;refine⟨h.1,λhc=>?_,λhc=>Ou (h.2.2 hc)⟩;obtain⟨d,a,e⟩:=h.2.1 hc;exact⟨d,a,Ou e⟩
  |_=>simp only[hf]at h
theorem T.any2(hm:P.follows .mixedOrders=true) {cuts:List Nat}{bs:List (List Nat)}{l:List RI}{K:Exit->St->Prop}{s:St}(ps:List (List Nat)) (a:Pu bs l q ps []=true) (h:tx P ps [] q l (K .normal) s):T P N (.any cuts q bs l) K s:=
 T.anyO hm ps [] a rfl (Ou h)
theorem T.drawO(hm:P.follows .mixedOrders=true) {l:List RI}{K:Exit->St->Prop}{s:St}(h:Qn P [] [] [] q l (K .normal) s):T P N (.draw q l) K s:=by
 intro code hc G w a hN hr;obtain⟨id,ops,rfl,m,o⟩:=xC hc;have hf:=Et o;have b:∀i,pO [] i=none:=λi=>rfl;have notgt:∀(j:Nat) d g i,j<q->l[j]?=some (.op d g i)->i.dT=none:=by
  intro j d g i c hl;have r:=hf.cls j _ c hl
  cases ht:i.dT with
  |none=>rfl
  |some x=>grind[RI.cls,uF]
 refine Zz hm m (ps:=[]) (pl:=[]) ⟨hf.toTailFacts,?_,?_,?_⟩ h (λi p hp=>by simp_all) hr λs' G' w' a' t u k3=>⟨s',G',t,u,k3.EX hN⟩
 .intro j y c f;have:=hf.cls j y c f;rw[b]
  cases y with
  |call=>rfl
  |op d g i=>grind[RI.CE,RI.cls]
 .intro i j x y e c hx f hcl;refine hf.apart i j x y e c hx f ?_
  grind[rv,Kz]
 .intro i j x y e c hx f n;exfalso;rw[b,b]at n
  cases x with
  |call=>
   cases y with
   |call=>grind[Lv,wB]
   |op d g k=>grind[Lv,wB]
  |op d g k=>
   have r:=notgt i d g k (by omega) hx
   cases y with
   |call=>grind[Lv,wB]
   |op d' g' k'=>grind[Lv,wB]
theorem T.drawP(hm:P.follows .mixedOrders=true) {l:List RI}{K:Exit->St->Prop}{s:St}(ps:List (List Nat)) (pl:List (Option Nat)) (hcl:∀i p,pO pl i=some p->∃a b c d,l[i]?=some (.call a b c d))
 (hps:∀j,j<q->∀i,i<j->i∈ps.getD j []) (o:Ds s.m pl=true) (h:Qn P pl ps [] q l (K .normal) s):T P N (.draw q l) K s:=by
 intro code hc G w a hN hr;obtain⟨id,ops,rfl,e,n⟩:=xC hc;have hf:=Et n;refine Zz hm e (ps:=ps) (pl:=pl) ⟨hf.toTailFacts,?_,?_,?_⟩ h (jW o) hr λs' G' w' a' t u k3=>⟨s',G',t,u,k3.EX hN⟩
 .intro j y k r;have:=hf.cls j y k r
  cases y with
  |call=>simp[RI.CE]
  |op d g i=>grind[RI.CE,RI.cls]
 .intro i j x y f k hx r hcl';refine hf.apart i j x y f k hx r ?_
  grind[rv,Kz]
 simp_all
end
section
variable {P:Program} {N:Nat}
mutual
def Ad(n:Nat):D->D->Prop
 |.v x,.own i v=>x=.slice none 0 0/\i=n/\v=0
 |.agg l,.agg r=>Ju n l r
 |d,e=>d=e
def Ju(n:Nat):List D->List D->Prop
 |[],r=>r=[]
 |d::l,r=>∃e a,r=e::a/\Ad n d e/\Ju n l a
end
theorem Ad.inv{n:Nat}{d e:D}(h:Ad n d e):(d=.v (.slice none 0 0)/\e=.own n 0)\/(∃l r,d=.agg l/\e=.agg r/\Ju n l r)\/d=e:=by
 cases d<;>cases e<;>simp_all[Ad]
mutual
theorem Ad.rel{G:Gh}{w:World}{n:Nat}(ho:VRel G w (.own n 0) (.slice none 0 0)):∀{d e:D}{u:Value},Ad n d e->VRel G w d u->VRel G w e u
 |.agg l,e,u,b,h=>by
  rcases b.inv with⟨a,_⟩|⟨l',r,a,rfl,c⟩|rfl
  .grind
  .injection a with a;subst a;simp only[VRel]at h⊢;obtain⟨cs,rfl,h,a⟩:=h;exact⟨cs,rfl,Ju.rel ho c h,a⟩
  omega
 |.v x,e,u,b,h=>by
  rcases b.inv with⟨a,rfl⟩|⟨_,_,a,_⟩|rfl
  .injection a with a;subst a;simp only[VRel]at h;simp_all
  all_goals simp_all
 |.tup l,e,u,b,h=>by rcases b.inv with⟨a,_⟩|⟨_,_,a,_⟩|rfl<;>first|cases a|exact h
 |.sl S l,e,u,b,h=>by rcases b.inv with⟨a,_⟩|⟨_,_,a,_⟩|rfl<;>first|cases a|exact h
 |.pt x,e,u,b,h=>by rcases b.inv with⟨a,_⟩|⟨_,_,a,_⟩|rfl<;>first|cases a|exact h
 |.ref _ _ _ _,e,u,b,h=>by rcases b.inv with⟨a,_⟩|⟨_,_,a,_⟩|rfl<;>first|cases a|exact h
 |.own _ _,e,u,b,h=>by rcases b.inv with⟨a,_⟩|⟨_,_,a,_⟩|rfl<;>first|cases a|exact h
 |.view _ _ _ _,e,u,b,h=>by rcases b.inv with⟨a,_⟩|⟨_,_,a,_⟩|rfl<;>first|cases a|exact h
 |.fn _ _ _,e,u,b,h=>by rcases b.inv with⟨a,_⟩|⟨_,_,a,_⟩|rfl<;>first|cases a|exact h
 |.mp _,e,u,b,h=>by rcases b.inv with⟨a,_⟩|⟨_,_,a,_⟩|rfl<;>first|cases a|exact h
 |.ifc _ _,e,u,b,h=>by rcases b.inv with⟨a,_⟩|⟨_,_,a,_⟩|rfl<;>first|cases a|exact h
 |.dead,e,u,b,h=>by rcases b.inv with⟨a,_⟩|⟨_,_,a,_⟩|rfl<;>first|cases a|exact h
theorem Ju.rel{G:Gh}{w:World}{n:Nat}(ho:VRel G w (.own n 0) (.slice none 0 0)):∀{l r:List D}{us:List Value},Ju n l r->VsRel G w l us->VsRel G w r us
 |[],r,us,a,h=>by simp only[Ju]at a;simp_all
 |d::l,r,us,a,h=>by
  simp only[Ju]at a;obtain⟨e,r',rfl,c,h2⟩:=a;simp only[VsRel]at h⊢;obtain⟨u,b,rfl,g1,g2⟩:=h;exact⟨u,b,rfl,Ad.rel ho c g1,Ju.rel ho h2 g2⟩
end
theorem Ju.row{G:Gh}{w:World}{n b S:Nat}(ho:VRel G w (.own n 0) (.slice none 0 0)):∀{l r:List D}{off:Nat},Ju n l r->Ta G w b S l off->Ta G w b S r off
 |[],r,off,a,h=>by simp only[Ju]at a;subst a;exact h
 |d::l,r,off,a,h=>by
  simp only[Ju]at a;obtain⟨e,r',rfl,c,h2⟩:=a;simp only[Ta]at h⊢;obtain⟨⟨u,g1,g2,g3⟩,g4⟩:=h;exact⟨⟨u,Ad.rel ho c g1,g2,g3⟩,Ju.row ho h2 g4⟩
theorem Ju.length{n:Nat}:∀{l r:List D},Ju n l r->l.length=r.length
 |[],r,h=>by simp[Ju]at h;simp[h]
 |d::l,r,h=>by
  simp only[Ju]at h;obtain⟨e,r',rfl,_,h2⟩:=h;simp[Ju.length h2]
mutual
theorem Ad.refl(n:Nat):∀d:D,Ad n d d
 |.agg l=>by simp only[Ad];exact Ju.refl n l
 |.v x=>by simp[Ad]
 |.tup l=>by simp[Ad]
 |.sl S l=>by simp[Ad]
 |.pt d=>by simp[Ad]
 |.ref ..=>by simp[Ad]
 |.own ..=>by simp[Ad]
 |.view ..=>by simp[Ad]
 |.fn ..=>by simp[Ad]
 |.mp ..=>by simp[Ad]
 |.ifc ..=>by simp[Ad]
 |.dead=>by simp[Ad]
theorem Ju.refl(n:Nat):∀l:List D,Ju n l l
 |[]=>by simp[Ju]
 |d::l=>by simp only[Ju];exact⟨d,l,rfl,Ad.refl n d,Ju.refl n l⟩
end
theorem Ju.cons{n:Nat}{d e:D}{l r:List D}(h1:Ad n d e) (h2:Ju n l r):Ju n (d::l) (e::r):=by
 simp only[Ju];grind
theorem Ad.nil(n:Nat):Ad n (.v (.slice none 0 0)) (.own n 0):=by simp[Ad]
def XI(n:Nat):Ent->Ent->Prop
 |.live S v l,.live S' a l'=>S=S'/\v=a/\Ju n l l'
 |e,e'=>e=e'
def Gz(n:Nat):List Ent->List Ent->Prop
 |[],r=>r=[]
 |d::l,r=>∃e a,r=e::a/\XI n d e/\Gz n l a
theorem XI.refl(n:Nat) (e:Ent):XI n e e:=by cases e<;>simp[XI,Ju.refl]
theorem Gz.refl(n:Nat):∀m:List Ent,Gz n m m
 |[]=>by simp[Gz]
 |d::l=>by simp only[Gz];exact⟨d,l,rfl,XI.refl n d,Gz.refl n l⟩
theorem Gz.cons{n:Nat}{d e:Ent}{l r:List Ent}(h1:XI n d e) (h2:Gz n l r):Gz n (d::l) (e::r):=by
 simp only[Gz];grind
theorem XI.live{n S v:Nat}{l r:List D}(h:Ju n l r):XI n (.live S v l) (.live S v r):=by simp only[XI];simp_all
theorem Gz.get{n:Nat}:∀{m m':List Ent},Gz n m m'->m.length=m'.length/\∀(i:Nat) e,m'[i]?=some e->∃a,m[i]?=some a/\XI n a e
 |[],m',h=>by simp[Gz]at h;subst h;simp
 |d::m,m',h=>by
  simp only[Gz]at h;obtain⟨e,r',rfl,b,h2⟩:=h;obtain⟨c,f⟩:=Gz.get h2;refine⟨by simp[c],λi e' he=>?_⟩
  cases i with
  |zero=>simp at he;subst he;exact⟨d,rfl,b⟩
  |succ i=>simpa using f i e' (by simpa using he)
theorem Gz.append{n:Nat}:∀{m m':List Ent}(x:List Ent),Gz n m m'->Gz n (m++x) (m'++x)
 |[],m',x,h=>by simp[Gz]at h;subst h;exact Gz.refl n x
 |d::m,m',x,h=>by
  simp only[Gz]at h;obtain⟨e,r',rfl,a,h2⟩:=h;simp only[List.cons_append];exact Gz.cons a (Gz.append x h2)
theorem XI.rel{G:Gh}{w:World}{n i:Nat}{e e':Ent}(ho:VRel G w (.own n 0) (.slice none 0 0)) (h:XI n e e') (hr:tp G w i e):tp G w i e':=by
 cases e with
 |live S v l=>
  cases e' with
  |live S' v' l'=>
   simp only[XI]at h;obtain⟨rfl,rfl,h⟩:=h;obtain⟨k,m,g,j,c⟩:=hr;rw[h.length]at g j;refine⟨k,m,g,j,?_⟩;rcases c with c|⟨o,cs,T,d,p,a,f,b⟩
   .exact .inl c
   .exact .inr ⟨o,cs,T,d,p,a,f,Ju.row ho h b⟩
  |_=>simp[XI]at h
 |_=>simp only[XI]at h;subst h;exact hr
theorem XI.isLive{n:Nat}{e e':Ent}(h:XI n e e'):e'.isLive=e.isLive:=by
 cases e<;>cases e'<;>simp_all[XI,Ent.isLive]
theorem T.G6{c:C}{K:Exit->St->Prop}{s:St}(S:Nat) {t':List D}{m':List Ent}(ht:Ju s.m.length s.t t') (hm:Gz s.m.length s.m m') (h:Tm.T P N c K ⟨t',m'++[.live S 0 []]⟩):Tm.T P N c K s:=by
 refine T.ghost (λG w a hN hr=>?_) h;have d:=Gx (w':=w) hr.inv none S 0 0 (.live S 0 []) rfl rfl rfl rfl (dab _) (λ_ _=>rfl) (λk h=>by cases h)
  ⟨by simp[Gh.add],by simp[Gh.add],by simp[Gh.add],by simp,.inl ⟨by simp[Gh.add],by simp[Gh.add]⟩⟩
 have ho:=ry (s:=s) (b:=none) (S:=S) (N:=0) (C:=0) (w':=w) hr.inv.n;have o:=(Gz.append [.live S 0 []] hm).get;have hi:=d.1;refine⟨_,⟨Ju.rel ho ht (hr.t.mono d.2.le),⟨by rw[hi.n,o.1],hi.F,λi e he=>?_,λi j e e' he v hl hl' b hb u=>?_,hi.gl⟩,hr.defers⟩,?_⟩
 .obtain⟨f,g,l⟩:=o.2 i e he;exact l.rel ho (hi.ent i f g)
 .obtain⟨f,g,l⟩:=o.2 i e he;obtain⟨p,q,r⟩:=o.2 j e' v;exact hi.apart i j f p g q (by rw[←l.isLive];omega) (by rw[←r.isLive];omega) b hb u
 .refine { d.2.EX hN with newB:=λb hb x=>d.2.newB b hb ?_ };obtain⟨i,e,he,hl,y⟩:=x;obtain⟨f,g,l⟩:=o.2 i e he;exact⟨i,f,g,by rw[←l.isLive];omega,y⟩
end
def zF(S id x:Nat) (s:St):St:=
 match s.m[id]? with
 |some (.live S' v l)=>
  match l[x]? with
  |some (.v (.slice none 0 0))=>⟨s.t,s.m.set id (.live S' v (l.set x (.own s.m.length 0)))++[.live S 0 []]⟩
  |_=>s
 |_=>s
theorem Ju.set{n:Nat}:∀{l:List D}{x:Nat},l[x]?=some (.v (.slice none 0 0))->Ju n l (l.set x (.own n 0))
 |[],x,h=>by grind
 |d::l,0,h=>by grind[Ju.cons,Ad.nil,Ju.refl]
 |d::l,x+1,h=>Ju.cons (Ad.refl n d) (Ju.set (by simp_all))
theorem Gz.set{n S v:Nat}{l l':List D}(hl:Ju n l l'):∀{m:List Ent}{id:Nat},m[id]?=some (.live S v l)->Gz n m (m.set id (.live S v l'))
 |[],id,h=>by grind
 |e::m,0,h=>by grind[Gz.cons,XI.live,Gz.refl]
 |e::m,id+1,h=>Gz.cons (XI.refl n e) (Gz.set hl (by simp_all))
theorem IT{P:Program}{N:Nat}{c:C}{K:Exit->St->Prop}{S id x:Nat}{s:St}(h:Tm.T P N c K (zF S id x s)):Tm.T P N c K s:=by
 unfold zF at h;split at h
 .rename_i S' v l hm;split at h
  .rename_i hx;exact T.G6 S (Ju.refl _ _) (Gz.set (Ju.set hx) hm) h
  omega
 omega
def Lu(S id:Nat):Nat->St->St
 |0,s=>s
 |x+1,s=>zF S id x (Lu S id x s)
theorem rC{P:Program}{N:Nat}{c:C}{K:Exit->St->Prop}{S id:Nat}:∀{x:Nat}{s:St},Tm.T P N c K (Lu S id x s)->Tm.T P N c K s
 |0,s,h=>h
 |x+1,s,h=>rC (x:=x) (IT h)
def makS:RI->Option Nat
 |.op _ none (.alloc S _)=>some S
 |.op _ none (.box S _)=>some S
 |.op _ none (.bslice S _ _ _)=>some S
 |_=>none
def isMk:RI->Bool
 |.op _ _ i=>Mae i.cls 2
 |_=>false
def places:List RI->Nat->List (Option Nat)
 |[],_=>[]
 |r::l,n=>
  match makS r with
  |some _=>bif l.any isMk then some n::places l (n+1)else none::places l n
  |none=>none::places l n
def lent(m:List Ent) (d:D):Option D:=
 bif flat d then some d else
 match d with
 |.own id Pa=>
  match m[id]? with
  |some (.live S v l)=>bif Mae v Pa&&tJ l then some (.sl S l)else none
  |_=>none
 |_=>none
def fE(id Pa:Nat) (d:D):D:=
 match d with
 |.ref i v x s=>bif Mae i id&&Mae v Pa then .ref 0 0 x s else .dead
 |d=>bif oa d then d else .dead
theorem US{G G':Gh}{w:World}{id Pa:Nat}(a:SubF G w G' w) (hr:∀x s u,VRel G w (.ref id Pa x s) u->VRel G' w (.ref 0 0 x s) u) {d:D}{u:Value}(h:VRel G w d u):VRel G' w (fE id Pa d) u:=by
 unfold fE;split
 .rename_i i v x s;cases hb:(Mae i id&&Mae v Pa)
  .simp[VRel]
  simp_all
 .cases hf:oa d
  .simp[VRel]
  .exact h.free a hf
section
variable {P:Program}
theorem VT{k id S Pa:Nat}{l X:List D}{m m1:List Ent}{ds:List D}{d1:D}
 (t:m[id]?=some (.live S Pa l)) (hl:ia l=true) (J:m1[0]?=some (.live S 0 X))
 (h:CallT P k (ds.map (fE id Pa)) [.live S 0 l] λd m'=>d=d1/\m'=m1) :
 CallT P k ds m λd m'=>d=cf 8 (m1.set 0 .gone) d1/\m'=m.set id (.live S Pa (X.map (cf 8 (m1.set 0 .gone)))):=by
 refine⟨h.1,λG w vs hv hi=>?_⟩;have hlen:id<m.length:=(yab.1 t).1;obtain⟨eV,eS,eN,eC,eB⟩:=hi.ent id _ t;have M:SubF G w ⟨G.F,1,λ_=>G.B id,λ_=>0,λ_=>G.S id,λ_=>G.N id,λ_=>G.C id⟩ w:=⟨λ_ h=>h,λ_ _=>rfl⟩;have hv':=Br (G':=⟨G.F,1,λ_=>G.B id,λ_=>0,λ_=>G.S id,λ_=>G.N id,λ_=>G.C id⟩) (f:=fE id Pa) (λd u hu=>US M (λx s u hu=>by
  simp only[VRel]at hu⊢
  grind) hu) hv
 have hic:Inv ⟨G.F,1,λ_=>G.B id,λ_=>0,λ_=>G.S id,λ_=>G.N id,λ_=>G.C id⟩ w [.live S 0 l]:=by
  refine⟨rfl,hi.F,?_,?_,hi.gl.bare λ_ h=>h⟩
  .intro i e he
   cases i with
   |zero=>
    simp at he;subst he;refine⟨rfl,eS,eN,eC,?_⟩;rcases eB with h|⟨b,cs,T,p,h2,W,Z,h5⟩
    .simp_all
    .exact .inr ⟨b,cs,T,p,h2,W,Z,Ta.free M rfl hl h5⟩
   |succ i=>simp at he
  grind
 have r:∀b,df ⟨G.F,1,λ_=>G.B id,λ_=>0,λ_=>G.S id,λ_=>G.N id,λ_=>G.C id⟩ [.live S 0 l] b->G.B id=some b:=by
  rintro b ⟨i,e,he,-,E⟩;omega
 refine(h.2 _ w vs hv' hic).mono ?_;rintro e w' ⟨v,d,m',G',rfl,⟨rfl,rfl⟩,hvd,g,a⟩;obtain⟨fV,fS,fN,fC,fB⟩:=g.ent 0 _ J;have hlen1:0<m'.length:=(yab.1 J).1;have live1:(Ent.live S Pa l).isLive=true:=rfl;obtain⟨sB,sS,sN,sC⟩:G'.B 0=G.B id/\G'.S 0=G.S id/\G'.N 0=G.N id/\G'.C 0=G.C id:=by
  rcases a.le.id 0 (Nat.lt_succ_self 0)with⟨_,p,h2,W,Z⟩|h
  all_goals simp_all
 have c:∀i x,(m'.set 0 .gone)[i]?=some x->(i=0/\x=.gone)\/(i≠0/\m'[i]?=some x):=by
  grind
 have O:Inv G' w' (m'.set 0 .gone):=by
  refine⟨by simpa using g.n,g.F,?_,?_,g.gl⟩
  .intro i x hx;rcases c i x hx with⟨rfl,rfl⟩|⟨L,hx⟩
   .trivial
   .exact g.ent i x hx
  .intro i j x y hx U A Y b hb I;rcases c i x hx with⟨rfl,rfl⟩|⟨L,hx⟩
   .cases A
   .rcases c j y U with⟨rfl,rfl⟩|⟨p,U⟩
    .cases Y
    .exact g.apart i j x y hx U A Y b hb I
 have H:∀b,df G' (m'.set 0 .gone) b->df G' m' b/\G'.B 0≠some b:=by
  rintro b ⟨i,x,hx,A,E⟩;rcases c i x hx with⟨rfl,rfl⟩|⟨L,hx⟩
  .cases A
  .exact⟨⟨i,x,hx,A,E⟩,λh=>L (g.apart i 0 x _ hx J A rfl b E h)⟩
 have hF':∀b,(G'.F b\/df G' (m'.set 0 .gone) b)->b<w'.heap.size:=by
  rintro b (hb|hb)
  .exact g.F b hb
  .exact(df.lt O hb).1
 have R:∀d u,VRel G' w' d u->VRel ⟨λb=>G'.F b\/df G' (m'.set 0 .gone) b,G.n,G.B,G.V,G.S,G.N,G.C⟩ w' (cf 8 (m'.set 0 .gone) d) u:=by
  intro d u hu;have L:=NM O 8 d u hu;refine VRel.free ?_ (Uy _ _ _) L;exact⟨λ_ h=>h,λ_ _=>rfl⟩
 have Q:Le G w ⟨λb=>G'.F b\/df G' (m'.set 0 .gone) b,G.n,G.B,G.V,G.S,G.N,G.C⟩ w':=
  ⟨λb hb=>.inl (a.le.F b hb),λb hb=>a.le.heap b hb,dab _,λi _=>.inl (by simp)⟩
 have K:∀i x,m[i]?=some x->x.isLive=true->∀b,G.B i=some b->b<w.heap.size/\¬G.F b:=λi x hx hl b hb=>(hi.ent i x hx).lt hl hb;have notO:∀i x,m[i]?=some x->x.isLive=true->i≠id->∀b,G.B i=some b->G.B id≠some b:=λi x hx o hne b hb E=>hne (hi.apart i id x _ hx t o live1 b hb E);have q:∀i x,(m.set id (.live S Pa (X.map (cf 8 (m'.set 0 .gone)))))[i]?=some x->(m[i]?=some x/\i≠id)\/(i=id/\x=.live S Pa (X.map (cf 8 (m'.set 0 .gone)))):=by
  grind
 refine⟨v,_,_,⟨λb=>G'.F b\/df G' (m'.set 0 .gone) b,G.n,G.B,G.V,G.S,G.N,G.C⟩,rfl,⟨rfl,rfl⟩,R _ _ hvd,⟨by simp[hi.n],hF',?_,?_,g.gl.bare λ_ h=>.inl h⟩,⟨Q,a.os,a.tape,a.output,a.size,?_,?_,?_⟩⟩
 .intro i x hx;rcases q i x hx with⟨p,h2⟩|⟨rfl,rfl⟩
  .by_cases o:x.isLive=true
   .refine(hi.ent i x p).mono Q (by simp) (λb hb=>?_) (λb hb _ z=>?_)
    .exact a.keep b (K i x p o b hb).1 λho=>notO i x p o h2 b hb (r b ho)
    .rcases z with z|z
     .rcases a.newF b (K i x p o b hb).1 z with h|h
      all_goals grind
     .exact(notO i x p o h2 b hb (r b (a.newB b (K i x p o b hb).1 (H b z).1))).elim
   .cases x with
    |gone=>trivial
    |_=>grind[Ent.isLive]
  .refine⟨eV,eS,by simp_all,by simp_all,?_⟩
   grind[Js]
 .intro i j x y hx U A Y b hb I;rcases q i x hx with⟨p,h2⟩|⟨rfl,rfl⟩<;>rcases q j y U with⟨W,Z⟩|⟨rfl,rfl⟩
  .exact hi.apart i j x y p W A Y b hb I
  all_goals grind
 .intro b hb hno;exact a.keep b hb λho=>hno ⟨id,_,t,live1,r b ho⟩
 .intro b hb z;rcases z with z|z
  .rcases a.newF b hb z with h|h
   all_goals grind
  .exact .inr ⟨id,_,t,live1,r b (a.newB b hb (H b z).1)⟩
 .rintro b hb ⟨i,x,hx,A,E⟩;rcases q i x hx with⟨p,h2⟩|⟨rfl,rfl⟩
  .exact⟨i,x,p,A,E⟩
  .exact⟨i,_,t,live1,E⟩
end
def Hx(q:Nat):List (List Nat):=(Zaa q).map Zaa
theorem UL{q:Nat}:∀j,j<q->∀i,i<j->i∈(Hx q).getD j []:=by
 grind[Hx]
end Go.Tm
