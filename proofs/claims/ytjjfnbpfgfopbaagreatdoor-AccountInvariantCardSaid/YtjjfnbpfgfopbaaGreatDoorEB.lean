/-
  The engine: a part of the proof that trees of values are carried along by the program: no condition.
-/
import Derived.Test.YtjjfnbpfgfopbaaGreatDoorEA
import Derived.Orders
open Array renaming getD_eq_getD_getElem?->Oac,getElem?_eq_getElem->Lab,getElem?_replicate->Had,length_toList->rac,range->Pad,replicate->Xab
open Bool renaming and_eq_true->Caa,or_eq_true->yad
open List renaming all_eq_true->Yaa,append_nil->Xaa,drop_eq_getElem_cons->mab,drop_eq_nil_of_le->vac,getD_cons_succ->nab,getD_eq_getElem?_getD->Wac,getElem?_eq_getElem->qaa,getElem?_eq_some_iff->iab,getElem?_set->Mad,headD_nil->Iae,length_append->Taa,length_take->vab,map_cons->Gaa,mem_append->bab,mem_cons->oab,mem_range->Kac,range->zaa,replicate->raa,set_comm->Lae,size_toArray->Nab,tail_nil->Mae,take_succ_cons->Aab
open List.cons renaming injEq->zad
open Nat renaming beq->Cae,le_refl->Haa,le_total->Pae,le_trans->Oab,lt_of_lt_of_le->jab,lt_or_ge->Wab,strongRecOn->Aad,zero_add->Fab
open Option renaming bind_eq_some_iff->aac,getD_some->Rab,map_eq_some_iff->saa
open Option.some renaming injEq->aab
open Prod.mk renaming injEq->Paa
set_option linter.all false
namespace Go.Tm
open Go.RowKit (Below)
section
variable {P:Program}
structure StepN (N:Nat) (G:Gh) (w:World) (m:List Ent) (G':Gh) (w':World) (m':List Ent):Prop where
 F:∀b,G.F b->G'.F b
 heap:∀b,G.F b->w'.heap[b]?=w.heap[b]?
 n:N<=G'.n
 id:∀i,i<N->(G'.V i=G.V i/\G'.B i=G.B i/\G'.S i=G.S i/\G'.N i=G.N i/\G'.C i=G.C i)\/G.V i<G'.V i
 os:w'.os=w.os
 tape:w'.tape=w.tape
 output:w'.output=w.output
 size:w.heap.size<=w'.heap.size
 keep:∀b,b<w.heap.size->¬df G m b->w'.heap[b]?=w.heap[b]?
 newF:∀b,b<w.heap.size->G'.F b->G.F b\/df G m b
 newB:∀b,b<w.heap.size->df G' m' b->df G m b
theorem Step.lX{N:Nat}{G G':Gh}{w w':World}{m m':List Ent}(h:Step G w m G' w' m') (hN:N<=G.n):StepN N G w m G' w' m':=
 ⟨h.le.F,h.le.heap,Oab hN h.le.n,λi hi=>h.le.id i (jab hi hN),h.os,h.tape,h.output,h.size,h.keep,h.newF,h.newB⟩
theorem StepN.toStep{G G':Gh}{w w':World}{m m':List Ent}(h:StepN G.n G w m G' w' m'):Step G w m G' w' m':=
 ⟨⟨h.F,h.heap,h.n,h.id⟩,h.os,h.tape,h.output,h.size,h.keep,h.newF,h.newB⟩
theorem StepN.refl{N:Nat}(G:Gh) (w:World) (m:List Ent) (hN:N<=G.n):StepN N G w m G w m:=(Step.refl G w m).lX hN
theorem StepN.trans{N:Nat}{G G' c:Gh}{w w' e:World}{m m' d:List Ent}(h:StepN N G w m G' w' m') (k:StepN N G' w' m' c e d):StepN N G w m c e d where
 F b hb:=k.F b (h.F b hb)
 heap b hb:=(k.heap b (h.F b hb)).trans (h.heap b hb)
 n:=k.n
 id i hi:=by
  have h1:=h.id i hi;have h2:=k.id i hi
  grind
 os:=k.os.trans h.os
 tape:=k.tape.trans h.tape
 output:=k.output.trans h.output
 size:=Oab h.size k.size
 keep b hb ho:=(k.keep b (jab hb h.size) λa=>ho (h.newB b hb a)).trans (h.keep b hb ho)
 newF b hb f:=by
  rcases k.newF b (jab hb h.size) f with a|a
  .exact h.newF b hb a
  .exact .inr (h.newB b hb a)
 newB b hb a:=h.newB b hb (k.newB b (jab hb h.size) a)
def T(P:Program) (N:Nat) (c:C) (K:Exit->St->Prop) (s:St):Prop:=
 ∀code,comp P code=some c->∀(G:Gh) (w:World) (a:Act),N<=G.n->Rel G w a s->
  code.wp P (λe a' w'=>∃s' G',K e s'/\Rel G' w' a' s'/\StepN N G w s.m G' w' s'.m) a w
variable {N:Nat}
theorem T.mono{c:C}{K K':Exit->St->Prop}{s:St}(h:T P N c K s) (d:∀e s',K e s'->K' e s'):T P N c K' s:=
 λcode hc G w a hN hr=>Code.wp_mono (λ_ _ _ ⟨s',G',b,h2⟩=>⟨s',G',d _ _ b,h2⟩) (h code hc G w a hN hr)
theorem T.ghost{c:C}{K:Exit->St->Prop}{s s':St}(j:∀(G:Gh) (w:World) (a:Act),N<=G.n->Rel G w a s->∃G',Rel G' w a s'/\StepN N G w s.m G' w s'.m) (h:T P N c K s'):T P N c K s:=by
 intro code hc G w a hN hr;obtain⟨G',e,b⟩:=j G w a hN hr;exact Code.wp_mono (λ_ _ _ ⟨f,d,g,h2,i⟩=>⟨f,d,g,h2,b.trans i⟩) (h code hc G' w a b.n e)
theorem nQ{code:Code}(h:comp P code=some .skip):code=.skip\/∃l,code=.label l:=by
 cases code with
 |region id ops draw=>
  cases draw with
  |false=>simp[comp]at h
  |true=>grind[comp]
 |seq a b=>grind[comp]
 |cond c a b=>grind[comp]
 |skip=>simp
 |label l=>simp
 |_=>simp[comp]at h
theorem wT{code:Code}(h:comp P code=some .ret):code=.ret:=by
 cases code with
 |region id ops draw=>
  cases draw with
  |false=>simp[comp]at h
  |true=>grind[comp]
 |seq a b=>grind[comp]
 |cond c a b=>grind[comp]
 |ret=>rfl
 |_=>simp[comp]at h
theorem lQ{code:Code}{i:Nat}(h:comp P code=some (.exit i)):code=.exit i:=by
 cases code with
 |region id ops draw=>
  cases draw with
  |false=>simp[comp]at h
  |true=>grind[comp]
 |seq a b=>grind[comp]
 |cond c a b=>grind[comp]
 |exit j=>grind[comp]
 |_=>simp[comp]at h
theorem FJ{code:Code}{l:List RI}(h:comp P code=some (.UI l)):∃id ops,code=.region id ops false/\mg P ops ops.toList=some l:=by
 cases code with
 |region id ops draw=>
  cases draw with
  |true=>grind[comp]
  |false=>simp[comp]at h;grind
 |seq a b=>grind[comp]
 |cond c a b=>grind[comp]
 |_=>simp[comp]at h
theorem RA{code:Code}{q:Nat}{l:List RI}(h:comp P code=some (.draw q l)):∃id ops,code=.region id ops true/\mg P ops ops.toList=some l/\TA (Bb ops) l q=true:=by
 cases code with
 |region id ops draw=>
  cases draw with
  |false=>simp[comp]at h
  |true=>
   simp only[comp]at h
   grind
 |seq a b=>grind[comp]
 |cond c a b=>grind[comp]
 |_=>simp[comp]at h
theorem vT{code:Code}{cuts:List Nat}{q:Nat}{bs:List (List Nat)}{l:List RI}(h:comp P code=some (.any cuts q bs l)):∃id ops,code=.region id ops true/\bs=Bb ops/\mg P ops ops.toList=some l/\bJ (Bb ops) l cuts q=true:=by
 cases code with
 |region id ops draw=>
  cases draw with
  |false=>simp[comp]at h
  |true=>
   simp only[comp]at h
   grind
 |seq a b=>grind[comp]
 |cond c a b=>grind[comp]
 |_=>simp[comp]at h
theorem xT{code:Code}{c d:C}(h:comp P code=some (.seq c d)):∃x y,code=.seq x y/\comp P x=some c/\comp P y=some d:=by
 cases code with
 |region id ops draw=>
  cases draw with
  |false=>simp[comp]at h
  |true=>grind[comp]
 |seq a b=>
  simp only[comp]at h
  grind
 |cond c a b=>grind[comp]
 |_=>simp[comp]at h
theorem kQ{code:Code}{t:Operand}{c d:C}(h:comp P code=some (.cond t c d)):∃x y,code=.cond t x y/\comp P x=some c/\comp P y=some d:=by
 cases code with
 |region id ops draw=>
  cases draw with
  |false=>simp[comp]at h
  |true=>grind[comp]
 |seq a b=>grind[comp]
 |cond t' a b=>
  grind[comp]
 |_=>simp[comp]at h
theorem eM{code:Code}{i:Nat}{c:C}(h:comp P code=some (.block i c)):∃x,code=.block i x/\comp P x=some c:=by
 cases code with
 |region id ops draw=>
  cases draw with
  |false=>simp[comp]at h
  |true=>grind[comp]
 |seq a b=>grind[comp]
 |cond c a b=>grind[comp]
 |block j b=>simp_all[comp]
 |_=>simp[comp]at h
theorem mQ{code:Code}{c:C}(h:comp P code=some (.loop c)):∃x,code=.loop x/\comp P x=some c:=by
 cases code with
 |region id ops draw=>
  cases draw with
  |false=>simp[comp]at h
  |true=>grind[comp]
 |seq a b=>grind[comp]
 |cond c a b=>grind[comp]
 |loop b=>simp[comp]at h;simp_all
 |_=>simp[comp]at h
theorem T.skip{K:Exit->St->Prop}{s:St}(h:K .normal s):T P N .skip K s:=by
 intro code hc G w a hN hr;rcases nQ hc with rfl|⟨l,rfl⟩
 all_goals grind[wp_skip,StepN.refl,wp_label]
theorem T.ret{K:Exit->St->Prop}{s:St}(h:K .ret s):T P N .ret K s:=by
 intro code hc G w a hN hr;obtain rfl:=wT hc
 grind[wp_ret,StepN.refl]
theorem T.exit{id:Nat}{K:Exit->St->Prop}{s:St}(h:K (.exit id) s):T P N (.exit id) K s:=by
 intro code hc G w a hN hr;obtain rfl:=lQ hc
 grind[wp_exit,StepN.refl]
theorem T.UI{l:List RI}{K:Exit->St->Prop}{s:St}(h:Wi P l (K .normal) s):T P N (.UI l) K s:=by
 intro code hc G w a hN hr;obtain⟨id,ops,rfl,b⟩:=FJ hc;exact wp_region_list (Uy b h hr λs' G' w' a' c h2 d=>⟨s',G',c,h2,d.lX hN⟩)
theorem T.seq{c d:C}{K:Exit->St->Prop}{s:St}(h:T P N c (λe s'=>match e with|.normal=>T P N d K s'|e=>K e s') s):T P N (.seq c d) K s:=by
 intro code hc G w a hN hr;obtain⟨x,y,rfl,k,h2⟩:=xT hc;refine wp_seq (Code.wp_mono ?_ (h x k G w a hN hr));rintro e a' w' ⟨s',G',j,f,b⟩
 cases e with
 |normal=>exact Code.wp_mono (λ_ _ _ ⟨i,g,l,m,k3⟩=>⟨i,g,l,m,b.trans k3⟩) (j y h2 G' w' a' b.n f)
 |_=>exact⟨s',G',j,f,b⟩
theorem T.cond{c:Operand}{x y:C}{t:Bool}{K:Exit->St->Prop}{s:St}(ht:s.ev c=.v (.bool t)) (f:t=true->T P N x K s) (h2:t=false->T P N y K s):T P N (.cond c x y) K s:=by
 intro code hc G w a hN hr;obtain⟨g,h,rfl,b,d⟩:=kQ hc;have hv:=hr.ev c;rw[ht]at hv;simp only[VRel]at hv;exact wp_cond_split hv (λe=>f e g b G w a hN hr) (λe=>h2 e h d G w a hN hr)
theorem T.block{id:Nat}{x:C}{K:Exit->St->Prop}{s:St}(h:T P N x (λe s'=>match e with|.exit c=>if c=id then K .normal s' else K (.exit c) s'|e=>K e s') s):T P N (.block id x) K s:=by
 intro code hc G w a hN hr;obtain⟨b,rfl,hx⟩:=eM hc;refine wp_block (Code.wp_mono ?_ (h b hx G w a hN hr));rintro e a' w' ⟨s',G',g,d,f⟩
 cases e with
 |exit j=>
  simp only[Exit.inBlock]
  grind
 |_=>exact⟨s',G',g,d,f⟩
theorem wp_loop_ghost{c:Code}{Q:Exit->Act->World->Prop}{X:Type}(J:X->Act->World->Prop) (μ:X->Nat)
 (round:∀x a w,J x a w->c.wp P (Exit.then (λa' w'=>∃y,J y a' w'/\μ y<μ x) Q) a w):∀(x:X) (a:Act) (w:World),J x a w->(Code.loop c).wp P Q a w:=by
 intro x₀ a₀ w₀ h₀ b k cs;have key:∀n (x:X) a w,μ x=n->J x a w->
  ∃e a' w',Q e a' w'/\Arrives P (lone (b.at a (.code c::.inLoop c::k)) cs w) b k cs e a' w':=by
  intro n
  induction n using Aad with
  |_ n h=>
   intro x a w hn g;obtain⟨e,a₁,w₁,hq,d⟩:=round x a w g b (.inLoop c::k) cs
   cases e with
   |normal=>
    obtain⟨y,hI₁,f⟩:=hq;obtain⟨e₂,a₂,w₂,hq₂,harr₂⟩:=h (μ y) (hn▸f) y a₁ w₁ rfl hI₁;exact⟨e₂,a₂,w₂,hq₂,.of_steps (Steps.trans d (.one step_inLoop)) harr₂⟩
   |exit id=>exact⟨_,a₁,w₁,hq,.pass (x:=.inLoop c) rfl (λ_ _=>.inl (by simp)) d⟩
   |goto l=>exact⟨_,a₁,w₁,hq,.pass (x:=.inLoop c) rfl (λ_ _=>.inl (by simp)) d⟩
   |ret=>exact⟨_,a₁,w₁,hq,.pass (x:=.inLoop c) rfl (λ_ _=>.inl (by simp)) d⟩
   |panic ch=>exact⟨_,a₁,w₁,hq,.pass (x:=.inLoop c) rfl (λ_ _=>.inl (by simp)) d⟩
   |outgrown=>exact⟨_,a₁,w₁,hq,.pass (x:=.inLoop c) rfl (λ_ _=>.inl (by simp)) d⟩
 obtain⟨e,a',w',hq,d⟩:=key _ x₀ a₀ w₀ rfl h₀;exact⟨e,a',w',hq,.of_steps (.one step_loop) d⟩
theorem T.Z5{x:C}{K:Exit->St->Prop}{s:St}{X:Type}(J:X->St->Prop) (μ:X->Nat) (x₀:X) (k:J x₀ s)
 (round:∀y s,J y s->T P N x (λe s'=>match e with|.normal=>∃z,J z s'/\μ z<μ y|e=>K e s') s):T P N (.loop x) K s:=by
 intro code hc G w a hN hr;obtain⟨b,rfl,hx⟩:=mQ hc;refine wp_loop_ghost (J:=λ(y:X) a' w'=>∃s' G',J y s'/\Rel G' w' a' s'/\StepN N G w s.m G' w' s'.m) μ ?_ x₀ a w ⟨s,G,k,hr,StepN.refl _ _ _ hN⟩;rintro y j p ⟨s1,i,o,g,c⟩;refine Code.wp_mono ?_ (round y s1 o b hx i p j c.n g);rintro e a' w' ⟨s',G',h,d,f⟩
 cases e with
 |normal=>obtain⟨z,l,h2⟩:=h;exact⟨z,⟨s',G',l,d,c.trans f⟩,h2⟩
 |_=>exact⟨s',G',h,d,c.trans f⟩
def ft(s:St):RV->Option D
 |.tmp t=>some (s.t.getD t .dead)
 |.cell A n a=>
  match ea s (.load A n (.tmp a))with
  |some (d,_)=>some d
  |none=>none
def Eb(s:St):List RV->Option (List D)
 |[]=>some []
 |r::l=>
  match ft s r,Eb s l with
  |some d,some ds=>some (d::ds)
  |_,_=>none
def yn:List D->D
 |[d]=>d
 |l=>.tup l
def VI(tmps:Array Value):ResultVar->Sem Value
 |.tmp t=>pure (tmps.getD t undef)
 |.cell a t=>do loadVar t (←asAddr (tmps.getD a undef))
theorem vN(fn:Func) (tmps:Array Value):results fn tmps=(do let vs←fn.results.mapM (VI tmps);pure (if h:vs.size=1 then vs[0]else .tuple vs)):=by
 unfold results;rfl
theorem YK:∀{l:List ResultVar}{rl:List RV}{s:St}{G:Gh}{w:World}{a:Act}{ds:List D},dv P l=some rl->Rel G w a s->Eb s rl=some ds->
 ∃us:List Value,(l.mapM (VI a.tmps)).run P w=.ok us w/\VsRel G w ds us
 |[],rl,s,G,w,a,ds,hc,hr,hd=>by
  simp only[dv]at hc;injection hc with hc;subst hc;simp only[Eb]at hd;injection hd with hd;subst hd;exact⟨[],by simp,by simp[VsRel]⟩
 |r::l,rl,s,G,w,a,ds,hc,hr,hd=>by
  simp only[dv]at hc;split at hc
  .rename_i x y c h2;injection hc with hc;subst hc;simp only[Eb]at hd;split at hd
   .rename_i d ds' b f;injection hd with hd;subst hd;obtain⟨us,hrun,hv⟩:=YK h2 hr f
    cases r with
    |tmp t=>
     simp only[dM]at c;injection c with c;subst c;simp only[ft]at b;injection b with b;subst b;have hx:=hr.ev (.tmp t);simp only[St.ev,Act.eval]at hx;refine⟨a.tmps.getD t undef::us,?_,by simp only[VsRel];grind⟩
     grind[VI,Sem.run_bind,Sem.run_pure,Result.andThen_ok]
    |cell p t=>
     simp only[dM,saa]at c;obtain⟨q,hq,rfl⟩:=c;simp only[ft]at b;split at b
     .rename_i e m0 he;injection b with b;subst b;obtain⟨ad,u,g,hrl,hvd,-⟩:=EE (P:=P) hr hq he;simp only[Act.eval]at g;refine⟨u::us,?_,by simp only[VsRel];grind⟩
      grind[VI,asAddr,Sem.run_bind,Sem.run_pure,Result.andThen_ok]
     simp_all
   simp_all
  simp_all
def Cy(rs:List RV) (R:D->List Ent->Prop):Exit->St->Prop
 |.normal,s=>∃ds,Eb s rs=some ds/\R (yn ds) s.m
 |.ret,s=>∃ds,Eb s rs=some ds/\R (yn ds) s.m
 |_,_=>False
theorem R4{G:Gh}{w:World}{ds:List D}{us:List Value}(h:VsRel G w ds us):VRel G w (yn ds) (if h:us.toArray.size=1 then us.toArray[0]else .tuple us.toArray):=by
 match ds,h with
 |[],h=>
  simp only[VsRel]at h;subst h;simp only[Nab,List.length_nil,yn];rw[dif_neg (by decide)];simp only[VRel,VsRel];simp
 |[d],h=>
  simp only[VsRel]at h;obtain⟨u,r,rfl,hv,rfl⟩:=h
  grind[yn]
 |d::e::l,h=>
  have hl:=h.length;rw[dif_neg (by simp_all)];simp only[yn,VRel]
  simp_all
theorem tC{fn:Func}{F:Fun}{s:St}{G:Gh}{w:World}{a:Act}{ds:List D}(hc:dv P fn.results.toList=some F.results) (hr:Rel G w a s) (hd:Eb s F.results=some ds) :
 ∃v,(results fn a.tmps).run P w=.ok v w/\VRel G w (yn ds) v:=by
 obtain⟨us,hrun,hv⟩:=YK hc hr hd;refine⟨_,?_,R4 hv⟩
 grind[vN,Array.mapM_eq_mapM_toList,Sem.run_bind,Sem.run_map,Result.andThen_ok,Sem.run_pure]
theorem fJ(G:Gh) (w:World):∀n,VsRel G w (raa n .dead) (raa n undef)
 |0=>by simp[VsRel]
 |n+1=>by simp only[List.replicate_succ,VsRel];exact⟨_,_,rfl,by simp[VRel],fJ G w n⟩
theorem Aj{f:FuncId}{F:Fun}{ds:List D}{m:List Ent}{R:D->List Ent->Prop}(g:ou P f=some F) (hname:((P.funcs[f]?).map λfn=>fn.name == "runtime.NumGoroutine")=some false)
 (h:T P m.length F.code (Cy F.results R) ⟨ds++raa (F.ntmps-ds.length) .dead,m⟩):CallT P f ds m R:=by
 unfold ou at g;split at g
 .rename_i fn i;split at g
  .rename_i b r hb k;simp only[saa]at g;obtain⟨c,hc,rfl⟩:=g;refine⟨⟨fn,i,by simp_all,by simp_all⟩,λG w vs hv hi=>?_⟩;refine calls_of_wp i hb ?_;have j:=hv.length;have hr:Rel G w { tmps:=vs.toArray++Xab (fn.ntmps-vs.toArray.size) undef,defers:=[] } ⟨ds++raa (fn.ntmps-ds.length) .dead,m⟩:=by
    refine⟨?_,hi,rfl⟩;simp only[Array.toList_append,Array.toList_replicate,Nab,j];exact hv.append (fJ _ _ _)
   refine Code.wp_mono ?_ (h b hc G w _ (by rw[hi.n];omega) hr);rintro e a' w' ⟨s',G',p,a,o⟩;have s:Step G w m G' w' s'.m:=by rw[←hi.n]at o;exact o.toStep
   have fin:(∃ds,Eb s' r=some ds/\R (yn ds) s'.m)->a'.defers=[]/\∃v,(results fn a'.tmps).run P w'=.ok v w'/\∃v_1 d m' G',Ending.returned v=.returned v_1/\R d m'/\VRel G' w' d v_1/\Inv G' w' m'/\Step G w m G' w' m':=by
    rintro⟨es,q,u⟩;obtain⟨v,l,t⟩:=tC (F:=⟨fn.ntmps,r,c⟩) k a q;exact⟨a.defers,v,l,v,_,_,G',rfl,u,t,a.inv,s⟩
   cases e with
   |normal=>exact fin p
   |ret=>exact fin p
   |_=>exact p.elim
  simp_all
 simp_all
end
structure SubF (G:Gh) (w:World) (G':Gh) (w':World):Prop where
 F:∀b,G.F b->G'.F b
 heap:∀b,G.F b->w'.heap[b]?=w.heap[b]?
mutual
theorem VRel.free{G G':Gh}{w w':World}(c:SubF G w G' w'):∀{d:D}{u:Value},la d=true->VRel G w d u->VRel G' w' d u
 |.v x,u,_,h=>by simpa [VRel] using h
 |.agg l,u,hf,h=>by
  simp only[VRel,la]at h hf⊢;obtain⟨cs,rfl,h,g⟩:=h;exact⟨cs,rfl,VsRel.free c hf h,g⟩
 |.tup l,u,hf,h=>by
  simp only[VRel,la]at h hf⊢;obtain⟨cs,rfl,h⟩:=h;exact⟨cs,rfl,VsRel.free c hf h⟩
 |.sl S l,u,hf,h=>by
  simp only[VRel,la]at h hf⊢;obtain⟨a,n,cap,rfl,hn,hc,h⟩:=h;refine⟨a,n,cap,rfl,hn,hc,?_⟩;rcases h with h|⟨b,off,rfl,e,hr⟩
  .simp_all
  .exact .inr ⟨b,off,rfl,c.F b e,Qa.free c (c.heap b e) hf hr⟩
 |.pt d,u,hf,h=>by
  simp only[VRel,la]at h hf⊢;obtain⟨b,off,x,rfl,e,hd,i⟩:=h;exact⟨b,off,x,rfl,c.F b e,VRel.free c hf hd,i.mono (c.heap b e)⟩
 |.fn f first caps,u,hf,h=>by
  simp only[VRel,la,Caa]at h hf⊢;obtain⟨fs,cs,rfl,g,h2⟩:=h;exact⟨fs,cs,rfl,VsRel.free c hf.1 g,VsRel.free c hf.2 h2⟩
 |.ifc t d,u,hf,h=>by
  simp only[VRel,la]at h hf⊢;obtain⟨x,rfl,h⟩:=h;exact⟨x,rfl,VRel.free c hf h⟩
 |.dead,u,_,h=>by simp[VRel]
 |.ref ..,_,hf,_=>by grind[la]
 |.own ..,_,hf,_=>by grind[la]
 |.view ..,_,hf,_=>by grind[la]
 |.mp _,_,hf,_=>by grind[la]
theorem VsRel.free{G G':Gh}{w w':World}(a:SubF G w G' w'):∀{l:List D}{us:List Value},fa l=true->VsRel G w l us->VsRel G' w' l us
 |[],us,_,h=>by simpa [VsRel] using h
 |d::l,us,hf,h=>by
  simp only[VsRel,fa,Caa]at h hf⊢;obtain⟨u,r,rfl,b,h2⟩:=h;exact⟨u,r,rfl,VRel.free a hf.1 b,VsRel.free a hf.2 h2⟩
theorem Qa.free{G G':Gh}{w w':World}(a:SubF G w G' w') {b S:Nat}(hb:w'.heap[b]?=w.heap[b]?) :
 ∀{l:List D} {off:Nat},fa l=true->Qa G w b S l off->Qa G' w' b S l off
 |[],off,_,h=>by simp[Qa]
 |d::l,off,hf,h=>by
  simp only[Qa,fa,Caa]at h hf⊢;obtain⟨⟨u,c,h2,e⟩,f⟩:=h;exact⟨⟨u,VRel.free a hf.1 c,h2,e.mono hb⟩,Qa.free a hb hf.2 f⟩
end
def bf:Nat->List Ent->D->D
 |0,_,_=>.dead
 |k+1,m,d=>
  match d with
  |.agg l=>.agg (l.map (bf k m))
  |.tup l=>.tup (l.map (bf k m))
  |.sl S l=>if fa l then d else .sl S (l.map (bf k m))
  |.pt d=>.pt (bf k m d)
  |.own id Na=>
   match m[id]? with
   |some (.live S c l)=>if c=Na then .sl S (if fa l then l else l.map (bf k m))else .dead
   |_=>.dead
  |.view id Na lo n=>
   match m[id]? with
   |some (.live S c l)=>if c=Na/\lo+n<=l.length then .sl S (((if fa l then l else l.map (bf k m)).drop lo).take n)else .dead
   |_=>.dead
  |.ref id Na x s=>
   match m[id]? with
   |some (.live _ c l)=>if c=Na/\s=0 then(match l[x]? with|some e=>.pt (bf k m e)|none=>.dead)else .dead
   |_=>.dead
  |.fn f a b=>.fn f (a.map (bf k m)) (b.map (bf k m))
  |.v x=>.v x
  |_=>.dead
theorem XB{f:D->D}(h:∀d,la (f d)=true):∀l:List D,fa (l.map f)=true
 |[]=>rfl
 |d::l=>by simp[fa,h d,XB h l]
theorem Ci:∀{l:List D},fa l=true↔∀d∈l,la d=true
 |[]=>by simp[fa]
 |d::l=>by simp[fa,Ci (l:=l)]
theorem vx:∀(k:Nat) (m:List Ent) (d:D),la (bf k m d)=true
 |0,m,d=>rfl
 |k+1,m,d=>by
  have ih:=XB (vx k m)
  cases d with
  |agg l=>grind[bf,la]
  |tup l=>grind[bf,la]
  |sl S l=>
   grind[bf,la]
  |pt d=>simpa [bf,la] using vx k m d
  |own id Na=>
   grind[bf,la]
  |view id Na lo n=>
   grind[bf,la,Ci]
  |ref id Na x s=>
   simp only[bf];split
   .split
    .split
     .simpa [la] using vx k m _
     .rfl
    .rfl
   .rfl
  |fn f a b=>grind[bf,la]
  |_=>rfl
def Gh.bf(G:Gh) (m:List Ent):Gh:={ G with F:=λb=>G.F b\/df G m b }
theorem Ew{G:Gh}{w:World}{m:List Ent}:SubF G w (G.bf m) w:=⟨λ_ h=>.inl h,λ_ _=>rfl⟩
theorem kq{G:Gh}{w:World}{G':Gh}{f:D->D}(h:∀d u,VRel G w d u->VRel G' w (f d) u):∀{l:List D}{us:List Value},VsRel G w l us->VsRel G' w (l.map f) us
 |[],us,hv=>by simpa [VsRel] using hv
 |d::l,us,hv=>by
  simp only[VsRel,Gaa]at hv⊢;obtain⟨u,r,rfl,a,h2⟩:=hv;exact⟨u,r,rfl,h d u a,kq h h2⟩
theorem Zq{G:Gh}{w:World}{G':Gh}{f:D->D}(h:∀d u,VRel G w d u->VRel G' w (f d) u) {b S:Nat}:∀{l:List D}{off:Nat},Qa G w b S l off->Qa G' w b S (l.map f) off
 |[],off,hv=>by simp[Qa]
 |d::l,off,hv=>by
  simp only[Qa,Gaa]at hv⊢;obtain⟨⟨u,a,h2,c⟩,e⟩:=hv;exact⟨⟨u,h d u a,h2,c⟩,Zq h e⟩
theorem iK{G:Gh}{w:World}{m:List Ent}(hi:Inv G w m):∀(k:Nat) (d:D) (u:Value),VRel G w d u->VRel (G.bf m) w (bf k m d) u
 |0,d,u,_=>by simp[bf,VRel]
 |k+1,d,u,hv=>by
  have z:=iK hi k
  cases d with
  |v x=>simpa [bf,VRel] using hv
  |agg l=>
   simp only[bf,VRel]at hv⊢;obtain⟨cs,rfl,E,h2⟩:=hv;exact⟨cs,rfl,kq z E,h2⟩
  |tup l=>
   simp only[bf,VRel]at hv⊢;obtain⟨cs,rfl,E⟩:=hv;exact⟨cs,rfl,kq z E⟩
  |sl S l=>
   simp only[bf];split
   .rename_i hf;exact hv.free Ew (by grind[la])
   .simp only[VRel]at hv⊢;obtain⟨a,n,cap,rfl,hn,hc,h⟩:=hv;refine⟨a,n,cap,rfl,by simp_all,hc,?_⟩;rcases h with h|⟨b,off,rfl,A,hr⟩
    .simp_all
    .exact .inr ⟨b,off,rfl,.inl A,Zq z hr⟩
  |pt d=>
   simp only[bf,VRel]at hv⊢;obtain⟨b,off,x,rfl,A,hd,P⟩:=hv;exact⟨b,off,x,rfl,.inl A,z d x hd,P⟩
  |own id Na=>
   simp only[bf];split
   .rename_i S t l hm;split
    .rename_i j;subst j;simp only[VRel]at hv⊢;obtain⟨p,n,c,rfl,F,r,hx⟩:=hv;obtain⟨B,J,M,N,o⟩:=hi.ent _ _ hm;obtain⟨rfl,rfl,rfl⟩:=hx B;have H:(if fa l=true then l else l.map (bf k m)).length=l.length:=by grind
     refine⟨_,_,_,rfl,by omega,by omega,?_⟩
     .rcases o with o|⟨K,cs,T,g,A,q,I,i⟩
      .simp_all
      .refine .inr ⟨K,(G.C id).2,by simp_all,.inr ⟨id,_,hm,rfl,g⟩,?_⟩;split
       .rename_i hf;exact i.free Ew rfl hf
       grind[Zq]
    .simp[VRel]
   .simp[VRel]
  |view id Na lo n=>
   simp only[bf];split
   .rename_i S t l hm;split
    .rename_i j;obtain⟨rfl,hle⟩:=j;simp only[VRel]at hv⊢;obtain⟨p,c,rfl,L,F,r,hx⟩:=hv;obtain⟨B,J,M,N,o⟩:=hi.ent _ _ hm;have H:(if fa l=true then l else l.map (bf k m)).length=l.length:=by grind
     have y:(((if fa l=true then l else l.map (bf k m)).drop lo).take n).length=n:=by
      grind
     refine⟨p,n,c,rfl,y.symm,L,?_⟩
     .rcases hx B with rfl|⟨b,hb,rfl⟩
      .simp
      .rcases o with o|⟨K,cs,T,g,A,q,I,i⟩
       .simp_all
       .rw[hb]at g;injection g with g;subst g;refine .inr ⟨b,lo*S+(G.C id).2,by rw[J],.inr ⟨id,_,hm,rfl,hb⟩,?_⟩;have:Qa (G.bf m) w b S (if fa l=true then l else l.map (bf k m)) (G.C id).2:=by
         split
         .rename_i hf;exact i.free Ew rfl hf
         grind[Zq]
        grind[Ms,Ls]
    .simp[VRel]
   .simp[VRel]
  |ref id Na x s=>
   simp only[bf];split
   .rename_i S t l hm;split
    .rename_i j;obtain⟨rfl,rfl⟩:=j;split
     .rename_i e he;simp only[VRel]at hv⊢;obtain⟨p,rfl,F,r,hx⟩:=hv;obtain⟨B,J,M,N,o⟩:=hi.ent _ _ hm;obtain⟨b,hb,rfl⟩:=hx B;rcases o with o|⟨K,cs,T,g,A,q,I,i⟩
      .simp_all
      .rw[hb]at g;injection g with g;subst g;obtain⟨O,g1,g2,g3⟩:=Ee.1 i x e he;refine⟨b,_,O,rfl,.inr ⟨id,_,hm,rfl,hb⟩,z e O g1,?_⟩
       grind
     .simp[VRel]
    .simp[VRel]
   .simp[VRel]
  |fn f a b=>
   simp only[bf,VRel]at hv⊢;obtain⟨fs,cs,rfl,E,h2⟩:=hv;exact⟨fs,cs,rfl,kq z E,kq z h2⟩
  |_=>simp[bf,VRel]
def Gh.bare(F:Nat->Prop):Gh:=⟨F,0,λ_=>none,λ_=>0,λ_=>0,λ_=>0,λ_=>(0,0)⟩
theorem XQ{g:Nat}{d:D}(h:gtab g=some d):la d=true:=by
 unfold gtab at h;split at h
 .injection h with h;subst h;rfl
 .cases h
theorem GOK.bare{G G':Gh}{w:World}(h:GOK G w) (a:∀b,G.F b->G'.F b):GOK G' w:=λg d hd=>
 VRel.free (G:=G) (G':=G') ⟨a,λ_ _=>rfl⟩ (d:=.pt d) (by grind[la,XQ]) (h g d hd)
theorem Oz{F:Nat->Prop}{w:World}(h:∀b,F b->b<w.heap.size) (a:GOK (Gh.bare F) w):Inv (Gh.bare F) w []:=
 ⟨rfl,h,λi e he=>by simp at he,λi j e e' he=>by simp,a⟩
theorem Cx{G:Gh}{b:Nat}:¬df G [] b:=λ⟨i,e,he,_⟩=>by simp at he
theorem OG{G G':Gh}{F:Nat->Prop}{w w':World}{m m':List Ent}(hi:Inv G w m) (d:Step (Gh.bare F) w [] G' w' m') (l:Inv G' w' m') (o:∀b,G.F b->F b) :
 (∀b,b<w.heap.size->w'.heap[b]?=w.heap[b]?)/\
 (Inv G w' m/\Step G w m G w' m)/\
 ((∀b,F b->G.F b)->Inv { G with F:=λb=>G'.F b\/df G' m' b } w' m/\Step G w m { G with F:=λb=>G'.F b\/df G' m' b } w' m):=by
 have a:∀b,b<w.heap.size->w'.heap[b]?=w.heap[b]?:=λb hb=>d.keep b hb Cx;have f:∀i x,m[i]?=some x->x.isLive=true->∀k,G.B i=some k->k<w.heap.size:=λi x hx hl k hk=>((hi.ent i x hx).lt hl hk).1;refine⟨a,?_,λj=>?_⟩
 .have c:Le G w G w':=⟨λ_ h=>h,λb hb=>a b (hi.F b hb),Haa _,λ_ _=>.inl ⟨rfl,rfl,rfl,rfl,rfl⟩⟩;refine⟨⟨hi.n,λb hb=>jab (hi.F b hb) d.size,λi e he=>?_,hi.apart,hi.gl.mono c⟩,⟨c,d.os,d.tape,d.output,d.size,λb hb _=>a b hb,λ_ _ h=>.inl h,λ_ _ h=>h⟩⟩;by_cases hl:e.isLive=true
  .exact(hi.ent i e he).mono c ⟨rfl,rfl,rfl,rfl,rfl⟩ (λb hb=>a b (f i e he hl b hb)) (λ_ _ _ h=>h)
  .cases e with
   |gone=>trivial
   |_=>grind[Ent.isLive]
 .have c:Le G w { G with F:=λb=>G'.F b\/df G' m' b } w':=⟨λb h=>.inl (d.le.F b (o b h)),λb hb=>a b (hi.F b hb),Haa _,λ_ _=>.inl ⟨rfl,rfl,rfl,rfl,rfl⟩⟩;have g:∀b,b<w.heap.size->(G'.F b\/df G' m' b)->G.F b:=by
   intro b hb h;rcases h with h|h
   .rcases d.newF b hb h with h|h
    .exact j b h
    grind[Cx]
   .exact(Cx (d.newB b hb h)).elim
  refine⟨⟨hi.n,?_,λi e he=>?_,hi.apart,hi.gl.mono c⟩,⟨c,d.os,d.tape,d.output,d.size,λb hb _=>a b hb,λb hb h=>.inl (g b hb h),λ_ _ h=>h⟩⟩
  .rintro b (h|h)
   .exact l.F b h
   grind[df.lt]
  .by_cases hl:e.isLive=true
   .exact(hi.ent i e he).mono c ⟨rfl,rfl,rfl,rfl,rfl⟩ (λb hb=>a b (f i e he hl b hb)) (λb hb _ h=>g b (f i e he hl b hb) h)
   .cases e with
    |gone=>trivial
    |_=>grind[Ent.isLive]
mutual
def flat:D->Bool
 |.v _=>true
 |.agg l=>gH l
 |.tup l=>gH l
 |.dead=>true
 |_=>false
def gH:List D->Bool
 |[]=>true
 |d::l=>flat d&&gH l
end
mutual
theorem VRel.flat{G G':Gh}{w w':World}:∀{d:D}{u:Value},flat d=true->VRel G w d u->VRel G' w' d u
 |.v x,u,_,h=>by simpa [VRel] using h
 |.agg l,u,hf,h=>by
  simp only[VRel,Tm.flat]at h hf⊢;obtain⟨cs,rfl,h,a⟩:=h;exact⟨cs,rfl,VsRel.flat hf h,a⟩
 |.tup l,u,hf,h=>by
  simp only[VRel,Tm.flat]at h hf⊢;obtain⟨cs,rfl,h⟩:=h;exact⟨cs,rfl,VsRel.flat hf h⟩
 |.dead,u,_,h=>by simp[VRel]
 |.sl ..,_,hf,_=>by grind[Tm.flat]
 |.pt ..,_,hf,_=>by grind[Tm.flat]
 |.fn ..,_,hf,_=>by grind[Tm.flat]
 |.ref ..,_,hf,_=>by grind[Tm.flat]
 |.own ..,_,hf,_=>by grind[Tm.flat]
 |.view ..,_,hf,_=>by grind[Tm.flat]
 |.mp _,_,hf,_=>by grind[Tm.flat]
 |.ifc ..,_,hf,_=>by grind[Tm.flat]
theorem VsRel.flat{G G':Gh}{w w':World}:∀{l:List D}{us:List Value},gH l=true->VsRel G w l us->VsRel G' w' l us
 |[],us,_,h=>by simpa [VsRel] using h
 |d::l,us,hf,h=>by
  simp only[VsRel,gH,Caa]at h hf⊢;obtain⟨u,r,rfl,a,h2⟩:=h;exact⟨u,r,rfl,VRel.flat hf.1 a,VsRel.flat hf.2 h2⟩
end
open Go.RowKit (Below)
mutual
def Sub:D->D->Prop
 |_,.dead=>True
 |.v x,.sl _ l=>x=.slice none 0 0/\l=[]
 |.agg l,.agg r=>pa l r
 |.tup l,.tup r=>pa l r
 |.sl S l,.sl S' r=>S=S'/\pa l r
 |d,e=>d=e
def pa:List D->List D->Prop
 |[],r=>r=[]
 |d::l,r=>∃e a,r=e::a/\Sub d e/\pa l a
end
theorem pa.length:∀{l r:List D},pa l r->l.length=r.length
 |[],r,h=>by simp[pa]at h;simp[h]
 |d::l,r,h=>by
  simp only[pa]at h;obtain⟨e,r',rfl,_,h2⟩:=h;simp[pa.length h2]
mutual
theorem Sub.rel{G:Gh}{w:World}:∀{d e:D}{u:Value},Sub d e->VRel G w d u->VRel G w e u
 |d,.dead,u,_,_=>by simp[VRel]
 |.v x,.sl S l,u,f,h=>by
  simp only[Sub]at f;obtain⟨rfl,rfl⟩:=f;simp only[VRel]at h⊢
  grind
 |.agg l,.agg r,u,f,h=>by
  simp only[Sub]at f;simp only[VRel]at h⊢;obtain⟨cs,rfl,h,g⟩:=h;exact⟨cs,rfl,pa.rel f h,g⟩
 |.tup l,.tup r,u,f,h=>by
  simp only[Sub]at f;simp only[VRel]at h⊢;obtain⟨cs,rfl,h⟩:=h;exact⟨cs,rfl,pa.rel f h⟩
 |.sl S l,.sl S' r,u,f,h=>by
  simp only[Sub]at f;obtain⟨rfl,f⟩:=f;simp only[VRel]at h⊢;obtain⟨a,n,cap,rfl,hn,hc,h⟩:=h;refine⟨a,n,cap,rfl,by rw[←f.length];omega,hc,?_⟩;rcases h with rfl|⟨b,off,rfl,i,hr⟩
  .simp only[pa]at f;simp_all
  .exact .inr ⟨b,off,rfl,i,pa.row f hr⟩
 |.v x,.v y,u,f,h=>by simp only[Sub]at f;simp_all
 |.v x,.agg y,u,f,h=>by simp only[Sub]at f;grind
 |.v x,.tup y,u,f,h=>by simp only[Sub]at f;grind
 |.v x,.pt y,u,f,h=>by simp only[Sub]at f;grind
 |.v x,.ref ..,u,f,h=>by simp only[Sub]at f;grind
 |.v x,.own ..,u,f,h=>by simp only[Sub]at f;grind
 |.v x,.view ..,u,f,h=>by simp only[Sub]at f;grind
 |.v x,.fn ..,u,f,h=>by simp only[Sub]at f;grind
 |.v x,.mp ..,u,f,h=>by simp only[Sub]at f;grind
 |.v x,.ifc ..,u,f,h=>by simp only[Sub]at f;grind
 |.agg l,.v y,u,f,h=>by simp only[Sub]at f;grind
 |.agg l,.tup y,u,f,h=>by simp only[Sub]at f;grind
 |.agg l,.sl ..,u,f,h=>by simp only[Sub]at f;grind
 |.agg l,.pt y,u,f,h=>by simp only[Sub]at f;grind
 |.agg l,.ref ..,u,f,h=>by simp only[Sub]at f;grind
 |.agg l,.own ..,u,f,h=>by simp only[Sub]at f;grind
 |.agg l,.view ..,u,f,h=>by simp only[Sub]at f;grind
 |.agg l,.fn ..,u,f,h=>by simp only[Sub]at f;grind
 |.agg l,.mp ..,u,f,h=>by simp only[Sub]at f;grind
 |.agg l,.ifc ..,u,f,h=>by simp only[Sub]at f;grind
 |.tup l,.v y,u,f,h=>by simp only[Sub]at f;grind
 |.tup l,.agg y,u,f,h=>by simp only[Sub]at f;grind
 |.tup l,.sl ..,u,f,h=>by simp only[Sub]at f;grind
 |.tup l,.pt y,u,f,h=>by simp only[Sub]at f;grind
 |.tup l,.ref ..,u,f,h=>by simp only[Sub]at f;grind
 |.tup l,.own ..,u,f,h=>by simp only[Sub]at f;grind
 |.tup l,.view ..,u,f,h=>by simp only[Sub]at f;grind
 |.tup l,.fn ..,u,f,h=>by simp only[Sub]at f;grind
 |.tup l,.mp ..,u,f,h=>by simp only[Sub]at f;grind
 |.tup l,.ifc ..,u,f,h=>by simp only[Sub]at f;grind
 |.sl S l,.v y,u,f,h=>by simp only[Sub]at f;grind
 |.sl S l,.agg y,u,f,h=>by simp only[Sub]at f;grind
 |.sl S l,.tup ..,u,f,h=>by simp only[Sub]at f;grind
 |.sl S l,.pt y,u,f,h=>by simp only[Sub]at f;grind
 |.sl S l,.ref ..,u,f,h=>by simp only[Sub]at f;grind
 |.sl S l,.own ..,u,f,h=>by simp only[Sub]at f;grind
 |.sl S l,.view ..,u,f,h=>by simp only[Sub]at f;grind
 |.sl S l,.fn ..,u,f,h=>by simp only[Sub]at f;grind
 |.sl S l,.mp ..,u,f,h=>by simp only[Sub]at f;grind
 |.sl S l,.ifc ..,u,f,h=>by simp only[Sub]at f;grind
 |.pt x,e,u,f,h=>by cases e<;>simp only[Sub]at f<;>first|(simp[VRel];done)|(rw[←f];exact h)|cases f
 |.ref a b c d,e,u,f,h=>by cases e<;>simp only[Sub]at f<;>first|(simp[VRel];done)|(rw[←f];exact h)|cases f
 |.own a b,e,u,f,h=>by cases e<;>simp only[Sub]at f<;>first|(simp[VRel];done)|(rw[←f];exact h)|cases f
 |.view a b c d,e,u,f,h=>by cases e<;>simp only[Sub]at f<;>first|(simp[VRel];done)|(rw[←f];exact h)|cases f
 |.fn a b c,e,u,f,h=>by cases e<;>simp only[Sub]at f<;>first|(simp[VRel];done)|(rw[←f];exact h)|cases f
 |.mp a,e,u,f,h=>by cases e<;>simp only[Sub]at f<;>first|(simp[VRel];done)|(rw[←f];exact h)|cases f
 |.ifc a b,e,u,f,h=>by cases e<;>simp only[Sub]at f<;>first|(simp[VRel];done)|(rw[←f];exact h)|cases f
 |.dead,e,u,f,h=>by cases e<;>simp only[Sub]at f<;>first|(simp[VRel];done)|(rw[←f];exact h)|cases f
theorem pa.rel{G:Gh}{w:World}:∀{l r:List D}{us:List Value},pa l r->VsRel G w l us->VsRel G w r us
 |[],r,us,a,h=>by simp only[pa]at a;subst a;exact h
 |d::l,r,us,a,h=>by
  simp only[pa]at a;obtain⟨e,r',rfl,c,h2⟩:=a;simp only[VsRel]at h⊢;obtain⟨u,b,rfl,g1,g2⟩:=h;exact⟨u,b,rfl,Sub.rel c g1,pa.rel h2 g2⟩
theorem pa.row{G:Gh}{w:World}{b S:Nat}:∀{l r:List D}{off:Nat},pa l r->Qa G w b S l off->Qa G w b S r off
 |[],r,off,a,h=>by simp only[pa]at a;subst a;exact h
 |d::l,r,off,a,h=>by
  simp only[pa]at a;obtain⟨e,r',rfl,c,h2⟩:=a;simp only[Qa]at h⊢;obtain⟨⟨u,g1,g2,g3⟩,g4⟩:=h;exact⟨⟨u,Sub.rel c g1,g2,g3⟩,pa.row h2 g4⟩
end
mutual
theorem Sub.refl:∀d:D,Sub d d
 |.v x=>by simp[Sub]
 |.agg l=>by simp only[Sub];exact pa.qb l
 |.tup l=>by simp only[Sub];exact pa.qb l
 |.sl S l=>by simp only[Sub,true_and];exact pa.qb l
 |.pt d=>by simp[Sub]
 |.ref ..=>by simp[Sub]
 |.own ..=>by simp[Sub]
 |.view ..=>by simp[Sub]
 |.fn ..=>by simp[Sub]
 |.mp ..=>by simp[Sub]
 |.ifc ..=>by simp[Sub]
 |.dead=>by simp[Sub]
theorem pa.qb:∀l:List D,pa l l
 |[]=>by simp[pa]
 |d::l=>by simp only[pa];exact⟨d,l,rfl,Sub.refl d,pa.qb l⟩
end
section
variable {P:Program} {N:Nat}
theorem T.sub{c:C}{K:Exit->St->Prop}{s:St}(t':List D) (a:pa s.t t') (h:T P N c K ⟨t',s.m⟩):T P N c K s:=
 T.ghost (s':=⟨t',s.m⟩) (λG w _ hN hr=>⟨G,⟨a.rel hr.t,hr.inv,hr.defers⟩,StepN.refl _ _ _ hN⟩) h
theorem T.mw{c:C}{K:Exit->St->Prop}{s:St}(i S:Nat) (hi:s.t[i]?=some (.v (.slice none 0 0))) (h:T P N c K ⟨s.t.set i (.own s.m.length 0),s.m++[.live S 0 []]⟩):T P N c K s:=by
 refine T.ghost (λG w a hN hr=>?_) h;have e:=jw (w':=w) hr.inv none S 0 0 (.live S 0 []) rfl rfl rfl rfl (Haa _) (λ_ _=>rfl) (λk h=>by cases h)
  ⟨by simp[Gh.add],by simp[Gh.add],by simp[Gh.add],by simp,.inl ⟨by simp[Gh.add],by simp[Gh.add]⟩⟩
 refine⟨_,⟨?_,e.1,hr.defers⟩,e.2.lX hN⟩;have hx:=VsRel.get i hr.t;rw[Wac,hi]at hx;simp only[Rab,VRel]at hx;have hset:=VsRel.set (d:=.own s.m.length 0) (x:=.slice none 0 0) (Rw (s:=s) (b:=none) (S:=S) (N:=0) (C:=0) (w':=w) hr.inv.n) i (hr.t.mono e.2.le);have hself:a.tmps.toList.set i (.slice none 0 0)=a.tmps.toList:=by
  rw[←hx];apply List.ext_getElem?
  grind
 simp_all
mutual
def below(k:Nat):D->Bool
 |.agg l=>belows k l
 |.tup l=>belows k l
 |.sl _ l=>belows k l
 |.pt d=>below k d
 |.ref i _ _ _=>decide (i<k)
 |.own i _=>decide (i<k)
 |.view i _ _ _=>decide (i<k)
 |.fn _ a b=>belows k a&&belows k b
 |.mp i=>decide (i<k)
 |.ifc _ d=>below k d
 |_=>true
def belows(k:Nat):List D->Bool
 |[]=>true
 |d::l=>below k d&&belows k l
end
mutual
theorem kc(k:Nat):∀d:D,la d=true->below k d=true
 |.v _,_=>by simp[below]
 |.agg l,h=>by simp only[below];exact Ib k l (by grind[la])
 |.tup l,h=>by simp only[below];exact Ib k l (by grind[la])
 |.sl _ l,h=>by simp only[below];exact Ib k l (by grind[la])
 |.pt d,h=>by simp only[below];exact kc k d (by grind[la])
 |.ifc _ d,h=>by simp only[below];exact kc k d (by grind[la])
 |.fn _ a b,h=>by
  simp only[la,Caa]at h;simp only[below,Caa];exact⟨Ib k a h.1,Ib k b h.2⟩
 |.dead,_=>by simp[below]
 |.ref ..,h=>by grind[la]
 |.own ..,h=>by grind[la]
 |.view ..,h=>by grind[la]
 |.mp _,h=>by grind[la]
theorem Ib(k:Nat):∀l:List D,fa l=true->belows k l=true
 |[],_=>by simp[belows]
 |d::l,h=>by
  simp only[fa,Caa]at h;simp only[belows,Caa];exact⟨kc k d h.1,Ib k l h.2⟩
end
def Ent.below(k:Nat):Ent->Bool
 |.live _ _ l=>belows k l
 |.mp es=>es.all λe=>Tm.below k e.2
 |.gone=>true
def Gh.trim(G:Gh) (k:Nat):Gh:={ G with n:=k }
mutual
theorem VRel.trim{G:Gh}{w:World}{k:Nat}:∀{d:D}{u:Value},below k d=true->VRel G w d u->VRel (G.trim k) w d u
 |.v x,u,_,h=>by simpa [VRel] using h
 |.agg l,u,hb,h=>by
  simp only[VRel,below]at h hb⊢;obtain⟨cs,rfl,h,e⟩:=h;exact⟨cs,rfl,VsRel.trim hb h,e⟩
 |.tup l,u,hb,h=>by
  simp only[VRel,below]at h hb⊢;obtain⟨cs,rfl,h⟩:=h;exact⟨cs,rfl,VsRel.trim hb h⟩
 |.sl S l,u,hb,h=>by
  simp only[VRel,below]at h hb⊢;obtain⟨a,n,cap,rfl,hn,hc,h⟩:=h;refine⟨a,n,cap,rfl,hn,hc,?_⟩;rcases h with h|⟨b,off,rfl,g,hr⟩
  .simp_all
  .exact .inr ⟨b,off,rfl,g,Qa.trim hb hr⟩
 |.pt d,u,hb,h=>by
  simp only[VRel,below]at h hb⊢;obtain⟨b,off,x,rfl,g,hd,i⟩:=h;exact⟨b,off,x,rfl,g,VRel.trim hb hd,i⟩
 |.ref ..,u,hb,h=>by
  simp only[VRel,below,decide_eq_true_eq]at h hb⊢;obtain⟨a,hu,_,h⟩:=h;exact⟨a,hu,hb,h⟩
 |.own ..,u,hb,h=>by
  simp only[VRel,below,decide_eq_true_eq]at h hb⊢;obtain⟨a,n,c,hu,_,h⟩:=h;exact⟨a,n,c,hu,hb,h⟩
 |.view ..,u,hb,h=>by
  simp only[VRel,below,decide_eq_true_eq]at h hb⊢;obtain⟨a,c,hu,hn,_,h⟩:=h;exact⟨a,c,hu,hn,hb,h⟩
 |.mp _,u,hb,h=>by
  simp only[VRel,below,decide_eq_true_eq]at h hb⊢;obtain⟨b,hu,_,h⟩:=h;exact⟨b,hu,hb,h⟩
 |.ifc t d,u,hb,h=>by
  simp only[VRel,below]at h hb⊢;obtain⟨x,rfl,h⟩:=h;exact⟨x,rfl,VRel.trim hb h⟩
 |.fn f first caps,u,hb,h=>by
  simp only[VRel,below,Caa]at h hb⊢;obtain⟨fs,cs,rfl,e,h2⟩:=h;exact⟨fs,cs,rfl,VsRel.trim hb.1 e,VsRel.trim hb.2 h2⟩
 |.dead,u,_,h=>by simp[VRel]
theorem VsRel.trim{G:Gh}{w:World}{k:Nat}:∀{l:List D}{us:List Value},belows k l=true->VsRel G w l us->VsRel (G.trim k) w l us
 |[],us,_,h=>by simpa [VsRel] using h
 |d::l,us,hb,h=>by
  simp only[VsRel,belows,Caa]at h hb⊢;obtain⟨u,r,rfl,a,h2⟩:=h;exact⟨u,r,rfl,VRel.trim hb.1 a,VsRel.trim hb.2 h2⟩
theorem Qa.trim{G:Gh}{w:World}{k b S:Nat}:∀{l:List D}{off:Nat},belows k l=true->Qa G w b S l off->Qa (G.trim k) w b S l off
 |[],off,_,h=>by simp[Qa]
 |d::l,off,hb,h=>by
  simp only[Qa,belows,Caa]at h hb⊢;obtain⟨⟨u,a,h2,c⟩,e⟩:=h;exact⟨⟨u,VRel.trim hb.1 a,h2,c⟩,Qa.trim hb.2 e⟩
end
theorem xd.trim{G:Gh}{w:World}{k:Nat}:∀{l:List (Value×D)}{es:List MapEntry},(l.all λe=>below k e.2)=true->xd G w l es->xd (G.trim k) w l es
 |[],es,_,h=>h
 |(q,d)::l,es,hb,h=>by
  simp only[List.all_cons,Caa]at hb;obtain⟨e,r,a,b,h2,c⟩:=h;exact⟨e,r,a,b,h2.trim hb.1,c.trim hb.2⟩
theorem T.trim{c:C}{K:Exit->St->Prop}{s:St}(k:Nat) (hN:N<=k) (hk:k<=s.m.length) (ht:belows k s.t=true) (hm:(s.m.take k).all (Ent.below k)=true) (h:T P N c K ⟨s.t,s.m.take k⟩):T P N c K s:=by
 refine T.ghost (λG w a hN' hr=>?_) h;have hi:=hr.inv;have d:∀(i:Nat) e,(s.m.take k)[i]?=some e->i<k/\s.m[i]?=some e:=by
  grind
 have p:Inv (G.trim k) w (s.m.take k):=by
  refine⟨by grind[Gh.trim],hi.F,λi e he=>?_,λi j e e' he y hl z b hb g=>hi.apart i j e e' (d i e he).2 (d j e' y).2 hl z b hb g,hi.gl.bare λ_ h=>h⟩;have hbe:e.below k=true:=Yaa.1 hm e (List.mem_of_getElem? he);have f:=hi.ent i e (d i e he).2
  cases e with
  |live S Na l=>
   obtain⟨r,u,v,x,n⟩:=f;refine⟨r,u,v,x,?_⟩;rcases n with n|⟨B,cs,T,g,I,o,A,q⟩
   .exact .inl n
   .exact .inr ⟨B,cs,T,g,I,o,A,q.trim (by grind[Ent.below])⟩
  |mp es=>
   obtain⟨r,b,E,D,u,v,x,n⟩:=f;exact⟨r,b,E,D,u,v,x,n.trim (by grind[Ent.below])⟩
  |gone=>trivial
 refine⟨G.trim k,⟨hr.t.trim ht,p,hr.defers⟩,⟨λ_ h=>h,λ_ _=>rfl,hN,λi hi'=>.inl ⟨rfl,rfl,rfl,rfl,rfl⟩,rfl,rfl,rfl,Haa _,λ_ _ _=>rfl,λ_ _ h=>.inl h,?_⟩⟩;rintro b hb ⟨i,e,he,hl,H⟩;exact⟨i,e,(d i e he).2,hl,H⟩
theorem T.loopS{x:C}{K:Exit->St->Prop}{s:St}{X:Type}(S:X->St) (Up:X->Prop) (μ:X->Nat) (x₀:X) (f:Up x₀) (ht:pa s.t (S x₀).t) (hm:s.m=(S x₀).m)
 (hb:∀y,Up y->N<=(S y).m.length/\belows (S y).m.length (S y).t=true/\(S y).m.all (Ent.below (S y).m.length)=true)
 (round:∀y,Up y->T P N x (λe s'=>match e with|.normal=>∃z,Up z/\μ z<μ y/\pa s'.t (S z).t/\∃g,s'.m=(S z).m++g|e=>K e s') (S y)):T P N (.loop x) K s:=by
 refine T.Z5 (J:=λy s'=>Up y/\pa s'.t (S y).t/\∃g,s'.m=(S y).m++g) μ x₀ ⟨f,ht,[],by grind⟩ ?_;rintro y s1 ⟨h,b,g,a⟩;obtain⟨c,d,b3⟩:=hb y h;refine T.sub (S y).t b ?_;refine T.trim (S y).m.length c (by simp[a]) d (by simp_all) ?_;have hst:(⟨(S y).t,s1.m.take (S y).m.length⟩:St)=S y:=by
  simp_all
 grind
end
open Go.RowKit (Below)
theorem ya{s s':St}{x:Operand}(h:∀t∈Xe x,s'.t.getD t .dead=s.t.getD t .dead):s'.ev x=s.ev x:=by
 cases x<;>simp[St.ev]
 simp_all[Xe]
theorem WD{s s':St}{f:Cal}(h:∀t∈f.tmps,s'.t.getD t .dead=s.t.getD t .dead):s'.cv f=s.cv f:=by
 cases f with
 |tmp t=>exact ya (x:=.tmp t) λt' h'=>h t' (by grind[Cal.tmps,Xe])
 |_=>rfl
theorem so{s s':St}{d:Nat}{x:Option Operand}(h:∀t∈lC x,s'.t.getD t .dead=s.t.getD t .dead):bound s' d x=bound s d x:=by
 cases x with
 |none=>rfl
 |some y=>simp only[bound,ya (s:=s) (s':=s') (x:=y) (λt ht=>h t ht)]
theorem qz{s s':St}:∀{ps:List (Nat×Nat×Operand)}{l:List D},(∀t∈ps.flatMap (λp=>Xe p.2.2),s'.t.getD t .dead=s.t.getD t .dead)->kr s' ps l=kr s ps l
 |[],l,h=>rfl
 |(o,n,x)::ps,l,h=>by
  simp only[kr,ya (s:=s) (s':=s') (x:=x) (λt ht=>h t (by simp_all))];split
  .exact qz λt ht=>h t (by simp_all)
  .rfl
theorem mq{s s':St}{S:Nat}:∀{ps:List (Nat×Operand)}{l:List D},(∀t∈ps.flatMap (λp=>Xe p.2),s'.t.getD t .dead=s.t.getD t .dead)->wc s' S ps l=wc s S ps l
 |[],l,h=>rfl
 |(o,x)::ps,l,h=>by
  simp only[wc,ya (s:=s) (s':=s') (x:=x) (λt ht=>h t (by simp_all))];split
  .exact mq λt ht=>h t (by simp_all)
  .rfl
theorem map_congr{s s':St}:∀{l:List Operand},(∀t∈l.flatMap Xe,s'.t.getD t .dead=s.t.getD t .dead)->l.map s'.ev=l.map s.ev
 |[],h=>rfl
 |x::l,h=>by
  simp only[Gaa,ya (s:=s) (s':=s') (x:=x) (λt ht=>h t (by simp_all))];rw[map_congr λt ht=>h t (by simp_all)]
theorem vE{s s':St}{g:Option (Tmp×Bool)}(h:∀t∈BI g,s'.t.getD t .dead=s.t.getD t .dead):gate s' g=gate s g:=by
 cases g with
 |none=>rfl
 |some p=>grind[gate,BI]
def Nd:D->Option Nat
 |.ref i _ _ _=>some i
 |.own i _=>some i
 |.view i _ _ _=>some i
 |.mp i=>some i
 |_=>none
def I.E5:I->Option Operand
 |.load _ _ x|.slice _ x _ _ _|.iaddr _ x _|.len x|.mlook _ _ _ x _|.mlen x|.Bo _ x=>some x
 |_=>none
theorem HE{m m':List Ent}{d:D}(h:∀i,Nd d=some i->m'[i]?=m[i]?):Dc m' d=Dc m d:=by
 unfold Dc;split<;>first|rfl|(rename_i id Na;rw[h id rfl])|(rename_i id _ _ _;rw[h id rfl])
theorem SM{S:Nat}{m m':List Ent}{d:D}{lo hi:Nat}(h:∀i,Nd d=some i->m'[i]?=m[i]?):yr S m' d lo hi=yr S m d lo hi:=by
 unfold yr;split<;>first|rfl|(rename_i id Na;rw[h id rfl])|(rename_i id Na l0 n;rw[h id rfl])
theorem vo{s s':St}{i:I}{d:D}(hc:i.cls<=1) (ht:∀t∈i.reads,s'.t.getD t .dead=s.t.getD t .dead) (hm:∀x id,i.E5=some x->Nd (s.ev x)=some id->s'.m[id]?=s.m[id]?)
 {m1:List Ent} (he:ea s i=some (d,m1)):m1=s.m/\ea s' i=some (d,s'.m):=by
 cases i with
 |mv x=>
  grind[ea,I.reads,ya]
 |pick c a b=>
  simp only[ea]at he⊢;rw[ya (s:=s) (s':=s') (x:=c) (λt h=>ht t (by grind[I.reads])),ya (s:=s) (s':=s') (x:=a) (λt h=>ht t (by grind[I.reads])),ya (s:=s) (s':=s') (x:=b) (λt h=>ht t (by grind[I.reads]))];split at he
  all_goals simp_all
 |bin op x y=>
  simp only[ea]at he⊢;rw[ya (s:=s) (s':=s') (x:=x) (λt h=>ht t (by grind[I.reads])),ya (s:=s) (s':=s') (x:=y) (λt h=>ht t (by grind[I.reads]))];split at he
  all_goals first|(simp_all;done)|(simp only[saa,Paa]at he⊢;grind)|(simp_all;obtain⟨_,g,h2,j⟩:=he;exact⟨j.symm,_,g,h2⟩)
 |beq n x y=>
  simp only[ea]at he⊢;rw[ya (s:=s) (s':=s') (x:=x) (λt h=>ht t (by grind[I.reads])),ya (s:=s) (s':=s') (x:=y) (λt h=>ht t (by grind[I.reads]))];split at he
  all_goals simp_all
 |un op x=>
  simp only[ea]at he⊢;rw[ya (s:=s) (s':=s') (x:=x) (λt h=>ht t (by grind[I.reads]))];split at he
  all_goals first|(simp_all;done)|(simp only[saa,Paa]at he⊢;grind)|(simp_all;obtain⟨_,g,h2,j⟩:=he;exact⟨j.symm,_,g,h2⟩)
 |conv k x=>
  simp only[ea]at he⊢;rw[ya (s:=s) (s':=s') (x:=x) (λt h=>ht t (by grind[I.reads]))];split at he
  all_goals simp_all
 |build z ps=>
  simp only[ea]at he⊢;rw[qz (s:=s) (s':=s') (λt h=>ht t (by grind[I.reads]))]
  cases hb:kr s ps z with
  |none=>simp_all
  |some l=>grind
 |mkifc t x=>
  grind[ea,I.reads,ya]
 |tassert ok t z x=>
  simp only[ea]at he⊢;rw[ya (s:=s) (s':=s') (x:=x) (λt h=>ht t (by grind[I.reads]))]
  repeat' split at he
  all_goals simp_all
 |capn x=>
  simp only[ea]at he⊢;rw[ya (s:=s) (s':=s') (x:=x) (λt h=>ht t (by grind[I.reads]))]
  grind
 |Bo neg x=>
  simp only[ea]at he⊢;rw[ya (s:=s) (s':=s') (x:=x) (λt h=>ht t (by grind[I.reads]))];split at he
  .simp_all
  .simp_all
  .rename_i id Na hx;rw[hm x id rfl (by rw[hx];rfl)];split at he
   all_goals simp_all
  simp_all
 |clr S z x=>grind[I.cls]
 |mkapp S b z x n=>grind[I.cls]
 |nilc x=>
  simp only[ea]at he⊢;rw[ya (s:=s) (s':=s') (x:=x) (λt h=>ht t (by grind[I.reads]))]
  grind
 |faddr A n o x=>
  simp only[ea]at he⊢;rw[ya (s:=s) (s':=s') (x:=x) (λt h=>ht t (by grind[I.reads]))];split at he
  all_goals first|(simp_all;done)|(simp only[saa,Paa]at he⊢;grind)|(simp_all;obtain⟨_,g,h2,j⟩:=he;exact⟨j.symm,_,g,h2⟩)
 |field A n o x=>
  simp only[ea]at he⊢;rw[ya (s:=s) (s':=s') (x:=x) (λt h=>ht t (by grind[I.reads]))];split at he
  all_goals first|(simp_all;done)|(simp only[saa,Paa]at he⊢;grind)|(simp_all;obtain⟨_,g,h2,j⟩:=he;exact⟨j.symm,_,g,h2⟩)
 |extract x k=>
  simp only[ea]at he⊢;rw[ya (s:=s) (s':=s') (x:=x) (λt h=>ht t (by grind[I.reads]))];split at he
  all_goals first|(simp_all;done)|(simp only[saa,Paa]at he⊢;grind)|(simp_all;obtain⟨_,g,h2,j⟩:=he;exact⟨j.symm,_,g,h2⟩)
 |mkfunc f a b=>
  grind[ea,I.reads,map_congr]
 |aaddr A S n x y=>
  simp only[ea]at he⊢;rw[ya (s:=s) (s':=s') (x:=x) (λt h=>ht t (by grind[I.reads])),ya (s:=s) (s':=s') (x:=y) (λt h=>ht t (by grind[I.reads]))]
  repeat' split at he
  all_goals first|(simp_all;done)|(simp only[saa,Paa]at he⊢;obtain⟨_,g,rfl,rfl⟩:=he;exact⟨rfl,_,g,by simp⟩)|(simp_all;grind)
 |index A S n x y=>
  simp only[ea]at he⊢;rw[ya (s:=s) (s':=s') (x:=x) (λt h=>ht t (by grind[I.reads])),ya (s:=s) (s':=s') (x:=y) (λt h=>ht t (by grind[I.reads]))];split at he
  .split at he
   .rename_i hk;rw[if_pos hk];split at he
    .simp only[saa,Paa]at he⊢
     grind
    simp_all
   simp_all
  simp_all
 |slen x=>
  simp only[ea]at he⊢;rw[ya (s:=s) (s':=s') (x:=x) (λt h=>ht t (by grind[I.reads]))];split at he
  all_goals simp_all
 |len x=>
  simp only[ea]at he⊢;rw[ya (s:=s) (s':=s') (x:=x) (λt h=>ht t (by grind[I.reads])),HE (λid h=>hm x id rfl h)]
  cases hb:Dc s.m (s.ev x)with
  |none=>simp_all
  |some l=>grind
 |slice S x lo hi mx=>
  simp only[ea]at he⊢;rw[ya (s:=s) (s':=s') (x:=x) (λt h=>ht t (by grind[I.reads])),HE (λid h=>hm x id rfl h)]
  cases hb:Dc s.m (s.ev x)with
  |none=>simp_all
  |some n=>
   simp only[hb]at he⊢;rw[so (s:=s) (s':=s') (x:=lo) (λt h=>ht t (by grind[I.reads])),so (s:=s) (s':=s') (x:=hi) (λt h=>ht t (by grind[I.reads])),so (s:=s) (s':=s') (x:=mx) (λt h=>ht t (by grind[I.reads]))];split at he
   .rename_i l h k g h2 j;(try simp only);rw[SM (λid h=>hm x id rfl h)];split at he
    .rename_i hc;rw[if_pos hc]
     cases hs:yr S s.m (s.ev x) l h with
     |none=>simp_all
     |some r=>grind
    simp_all
   simp_all
 |iaddr S x y=>
  simp only[ea]at he⊢;rw[ya (s:=s) (s':=s') (x:=x) (λt h=>ht t (by grind[I.reads])),ya (s:=s) (s':=s') (x:=y) (λt h=>ht t (by grind[I.reads]))];split at he
  .split at he
   .rename_i k hk;rw[if_pos hk];split at he
    .repeat' split at he
     all_goals first|(simp_all;done)|(simp only[saa,Paa]at he⊢;obtain⟨_,g,rfl,rfl⟩:=he;exact⟨rfl,_,g,by simp⟩)|(simp_all;grind)
    .rename_i id Na hx;(try simp only);rw[hm x id rfl (by rw[hx];rfl)]
     repeat' split at he
     all_goals simp_all
    .rename_i id Na lo n hx;(try simp only);rw[hm x id rfl (by rw[hx];rfl)]
     repeat' split at he
     all_goals simp_all
    simp_all
   simp_all
  simp_all
 |load A n x=>
  simp only[ea]at he⊢;rw[ya (s:=s) (s':=s') (x:=x) (λt h=>ht t (by grind[I.reads]))];split at he
  .repeat' split at he
   all_goals grind
  .rename_i id Na idx sub hx;(try simp only);rw[hm x id rfl (by rw[hx];rfl)];split at he
   .rename_i S ver' l hml;(try simp only);split at he
    .rename_i hv;rw[if_pos hv];simp only[aac]at he⊢;obtain⟨e,hl,he⟩:=he;split at he
     .rename_i hok;simp only[saa,Paa]at he
      grind
     simp_all
    simp_all
   simp_all
  simp_all
 |alloc S z=>grind[I.cls]
 |box S x=>grind[I.cls]
 |bslice S n z ps=>grind[I.cls]
 |mkslice S b z l c=>grind[I.cls]
 |store n x y=>grind[I.cls]
 |append S b x y=>grind[I.cls]
 |fail=>grind[ea]
 |mm b xs=>
  simp only[ea]at he⊢;rw[map_congr (s:=s) (s':=s') (l:=xs) (λt h=>ht t (by grind[I.reads]))];split at he
  all_goals first|(simp_all;done)|(simp only[saa,Paa]at he⊢;grind)|(simp_all;obtain⟨_,g,h2,j⟩:=he;exact⟨j.symm,_,g,h2⟩)
 |ceq n ks x y=>
  simp only[ea]at he⊢;rw[ya (s:=s) (s':=s') (x:=x) (λt h=>ht t (by grind[I.reads])),ya (s:=s) (s':=s') (x:=y) (λt h=>ht t (by grind[I.reads]))];split at he
  all_goals first|(simp_all;done)|(simp only[saa,Paa]at he⊢;grind)|(simp_all;obtain⟨_,g,h2,j⟩:=he;exact⟨j.symm,_,g,h2⟩)
 |strb S x=>grind[I.cls]
 |trunc S x lo hi=>grind[I.cls]
 |Bv x y=>
  simp only[ea]at he⊢;rw[ya (s:=s) (s':=s') (x:=x) (λt h=>ht t (by grind[I.reads])),ya (s:=s) (s':=s') (x:=y) (λt h=>ht t (by grind[I.reads]))];split at he
  all_goals simp_all
 |sslice x lo hi=>
  simp only[ea]at he⊢;rw[ya (s:=s) (s':=s') (x:=x) (λt h=>ht t (by grind[I.reads]))];split at he
  all_goals grind[I.reads,so]
 |mkmap=>grind[I.cls]
 |mput K m k x=>grind[I.cls]
 |mlook K ok z x k=>
  simp only[ea]at he⊢;rw[ya (s:=s) (s':=s') (x:=x) (λt h=>ht t (by grind[I.reads])),ya (s:=s) (s':=s') (x:=k) (λt h=>ht t (by grind[I.reads]))];split at he
  .split at he
   .rename_i hk;rw[if_pos hk];split at he
    .grind
    .rename_i id hx;(try simp only);rw[hm x id rfl (by rw[hx];rfl)];split at he
     all_goals grind
    simp_all
   simp_all
  simp_all
 |mlen x=>
  simp only[ea]at he⊢;rw[ya (s:=s) (s':=s') (x:=x) (λt h=>ht t (by grind[I.reads]))];split at he
  .grind
  .rename_i id hx;(try simp only);rw[hm x id rfl (by rw[hx];rfl)];split at he
   all_goals simp_all
  simp_all
theorem oE{s s':St}{i:I}{d:D}(hc:i.cls=2) (ht:∀t∈i.reads,s'.t.getD t .dead=s.t.getD t .dead) (hm:s'.m=s.m) {m1:List Ent}(he:ea s i=some (d,m1)):ea s' i=some (d,m1)/\∃e,m1=s.m++[e]:=by
 cases i with
 |alloc S z=>grind[ea]
 |box S x=>
  simp only[ea]at he⊢;rw[ya (s:=s) (s':=s') (x:=x) (λt h=>ht t (by grind[I.reads])),hm]
  grind
 |bslice S n z ps=>
  grind[ea,I.reads,mq,saa]
 |mkslice S b z l c=>
  grind[ea,I.reads,ya]
 |mkmap=>
  grind[ea]
 |_=>simp[I.cls]at hc
def Closed(bs:List (List Nat)) (L:Nat->Bool):Prop:=∀i b,bs[i]?=some b->L i=true->∀e∈b,L e=true
theorem OE(acc:List Nat) {L:Nat->Bool}(a:∀e,L e=true->∀j,(acc.getD e 0).testBit j=true->L j=true) :
 ∀(b:List Nat) (s:Nat),(∀e∈b,L e=true)->(∀j,s.testBit j=true->L j=true)->∀j,(b.foldl (λs e=>s ||| 2 ^ e ||| acc.getD e 0) s).testBit j=true->L j=true
 |[],s,_,c,j,h=>c j h
 |e::b,s,hb,c,j,h=>by
  simp only[List.foldl_cons]at h;refine OE acc a b _ (λx hx=>hb x (by grind)) (λk hk=>?_) j h
  grind
theorem zG{bs:List (List Nat)}{L:Nat->Bool}(f:Closed bs L):∀(k:Nat) (acc:List Nat),acc.length=k->(∀e,L e=true->∀j,(acc.getD e 0).testBit j=true->L j=true)->
 ∀e,L e=true->∀j,((Ku acc (bs.drop k)).getD e 0).testBit j=true->L j=true:=by
 intro k;have main:∀(n k:Nat) (acc:List Nat),bs.length-k=n->acc.length=k->(∀e,L e=true->∀j,(acc.getD e 0).testBit j=true->L j=true)->
  ∀e,L e=true->∀j,((Ku acc (bs.drop k)).getD e 0).testBit j=true->L j=true:=by
  intro n
  induction n with
  |zero=>
   intro k acc hn hl a e he j hj;rw[vac (by omega)]at hj;exact a e he j hj
  |succ n g=>
   intro k acc hn hl a e he j hj;have hk:k<bs.length:=by omega
   rw[mab hk]at hj;simp only[Ku]at hj;refine g (k+1) (acc++[kV acc bs[k]]) (by omega) (by grind) ?_ e he j hj;intro x hx y b;rw[Wac,List.getElem?_append]at b;split at b
   .exact a x hx y (by simp_all)
   .rename_i hlt;by_cases d:x=k
    .subst d;rw[hl,Nat.sub_self]at b;simp only[List.getElem?_cons_zero,Rab]at b;exact OE acc a _ 0 (λe' c=>f x _ (qaa hk) hx e' c) (λj h=>by grind) y b
    grind
 grind
theorem Zr{bs:List (List Nat)}{L:Nat->Bool}(a:Closed bs L) {e j:Nat}(he:L e=true) (hj:((Mv bs).getD e 0).testBit j=true):L j=true:=by
 have:=zG a 0 [] rfl (λe _ j h=>by grind) e he j;simp only[List.drop_zero]at this;exact this hj
open Go.RowKit (Below)
theorem gR{m:List Ent}{d:D}{n:Nat}(h:Dc m d=some n) {id:Nat}(ht:Nd d=some id):∃e,m[id]?=some e:=by
 unfold Dc at h
 grind[Nd]
theorem TB{s:St}{i:I}{d:D}{m1:List Ent}(he:ea s i=some (d,m1)) {x:Operand}{id:Nat}(hx:i.E5=some x) (ht:Nd (s.ev x)=some id):∃e,s.m[id]?=some e:=by
 cases i<;>simp only[I.E5,reduceCtorEq,aab]at hx<;>subst hx
 .grind[ea,Nd]
 all_goals grind[ea,Nd,gR,saa]
section
variable (dst:Nat->Option Tmp) (dd:Nat->D) (xx:Nat->List Ent) (L:Nat->Bool)
def tS(t0:List D):Nat->List D
 |0=>t0
 |n+1=>if L n then(match dst n with|some y=>(tS t0 n).set y (dd n)|none=>tS t0 n)else tS t0 n
def mS(a:List Ent):Nat->List Ent
 |0=>a
 |n+1=>if L n then mS a n++xx n else mS a n
end
section
variable {dst:Nat->Option Tmp} {dd:Nat->D} {xx:Nat->List Ent} {L:Nat->Bool}
theorem Qu(t0:List D):∀n,(tS dst dd L t0 n).length=t0.length
 |0=>rfl
 |n+1=>by
  simp only[tS];split
  .split
   .simp[Qu t0 n]
   .exact Qu t0 n
  .exact Qu t0 n
theorem RW(t0:List D) (n y:Nat):(tS dst dd L t0 (n+1)).getD y .dead=if L n=true/\dst n=some y/\y<t0.length then dd n else(tS dst dd L t0 n).getD y .dead:=by
 simp only[tS];by_cases a:L n=true
 .rw[if_pos a]
  cases hd:dst n with
  |none=>simp
  |some z=>
   simp only;rw[Wac,Mad];by_cases b:z=y
   .subst b;rw[if_pos rfl,Qu]
    grind[Qu]
   simp_all
 simp_all
theorem lL(t0:List D) {i y:Nat}:∀{q:Nat},i<=q->(∀j,j<q->dst j=some y->(L j=true↔j<i))->(tS dst dd L t0 q).getD y .dead=(tS dst dd (λ_=>true) t0 i).getD y .dead:=by
 have h1:∀n,n<=i->(∀j,j<n->dst j=some y->L j=true)->(tS dst dd L t0 n).getD y .dead=(tS dst dd (λ_=>true) t0 n).getD y .dead:=by
  intro n
  induction n with
  |zero=>intro _ _;rfl
  |succ n a=>
   grind[RW]
 intro q
 induction q with
 |zero=>simp_all
 |succ q a=>
  intro hi h;by_cases hq:i=q+1
  .simp_all
  .rw[RW,if_neg ?_]
   all_goals grind
theorem kB(a:List Ent):∀(q:Nat),(∀i j,i<j->j<q->xx i≠[]->xx j≠[]->L j=true->L i=true)->∃k,k<=q/\mS xx L a q=mS xx (λ_=>true) a k
 |0,_=>⟨0,Haa _,rfl⟩
 |q+1,h=>by
  obtain⟨k,hk,he⟩:=kB a q λi j b hj=>h i j b (by omega);by_cases hx:xx q=[]
  .grind[mS]
  .by_cases hL:L q=true
   .refine⟨q+1,Haa _,?_⟩;have hall:∀n,n<=q->mS xx L a n=mS xx (λ_=>true) a n:=by
     intro n
     induction n with
     |zero=>intro _;rfl
     |succ n ih=>
      grind[mS]
    simp_all[mS]
   grind[mS]
theorem kD(a:List Ent) {k i:Nat}(h:k<=i):∃r,mS xx (λ_=>true) a i=mS xx (λ_=>true) a k++r:=by
 induction i with
 |zero=>simp_all
 |succ i ih=>
  by_cases hk:k=i+1
  .simp_all
  grind[mS]
theorem wK(a:List Ent) {i:Nat}:∀{q:Nat},i<=q->(∀j,j<q->xx j≠[]->(L j=true↔j<i))->mS xx L a q=mS xx (λ_=>true) a i:=by
 have h1:∀n,n<=i->(∀j,j<n->xx j≠[]->L j=true)->mS xx L a n=mS xx (λ_=>true) a n:=by
  intro n
  induction n with
  |zero=>intro _ _;rfl
  |succ n b=>
   grind[mS]
 intro q
 induction q with
 |zero=>simp_all
 |succ q b=>
  grind[mS]
theorem uP(t0:List D) {a:Nat->Bool}{i:Nat}(hi:L i=false) (hL':∀j,a j=(L j || j==i)):∀{q:Nat},i<q->(∀j,i<j->j<q->∀y,dst i=some y->dst j=some y->L j=false)->
 tS dst dd a t0 q=(match dst i with|some y=>(tS dst dd L t0 q).set y (dd i)|none=>tS dst dd L t0 q):=by
 have hlow:∀n,n<=i->tS dst dd a t0 n=tS dst dd L t0 n:=by
  intro n
  induction n with
  |zero=>intro _;rfl
  |succ n c=>
   grind[tS]
 intro q
 induction q with
 |zero=>omega
 |succ q c=>
  intro hq hw;by_cases hqi:q=i
  .simp_all[tS]
  .have d:a q=L q:=by simp_all
   have b:=c (by omega) λj hj hjq=>hw j hj (by omega);simp only[tS,d,b]
   cases hdi:dst i with
   |none=>simp
   |some y=>
    simp only;split
    .rename_i hLq;split
     .rename_i z hz;have hne:y≠z:=by
       grind
      grind[Lae]
     .rfl
    .rfl
theorem QO(b:List Ent) {a:Nat->Bool}{i:Nat}(hi:L i=false) (hL':∀j,a j=(L j || j==i)):∀{q:Nat},i<q->(∀j,i<j->j<q->xx i≠[]->xx j≠[]->L j=false)->
 mS xx a b q=mS xx L b q++xx i:=by
 have hlow:∀n,n<=i->mS xx a b n=mS xx L b n:=by
  intro n
  induction n with
  |zero=>intro _;rfl
  |succ n d=>
   grind[mS]
 intro q
 induction q with
 |zero=>omega
 |succ q d=>
  intro hq hw;by_cases hqi:q=i
  .simp_all[mS]
  .have e:a q=L q:=by simp_all
   have c:=d (by omega) λj hj hjq=>hw j hj (by omega);simp only[mS,e,c];split
   .rename_i hLq;by_cases hxi:xx i=[]
    all_goals grind
   .rfl
end
def mz(P:Program) (r:RI) (s:St) (d:D) (x:List Ent):Prop:=
 match r with
 |.op _ g i=>((gate s g=some none\/∃c,gate s g=some (some (c,c)))/\ea s i=some (d,s.m++x))\/((∃c b,gate s g=some (some (c,b))/\c≠b)/\d=.v undef/\x=[])
 |.call _ g f args=>∃k first caps,s.cv f=.fn k first caps/\x=[]/\
  (((gate s g=some none\/∃c,gate s g=some (some (c,c)))/\∀m,CallT P k (first++args.map s.ev++caps) m λd' m'=>d'=d/\m'=m)\/((∃c b,gate s g=some (some (c,b))/\c≠b)/\d=.v undef))
def after(s:St) (r:RI) (d:D) (x:List Ent):St:=({ s with m:=s.m++x }:St).put r.dst d
def nJ(P:Program):List RI->St->List (D×List Ent)->St->Prop
 |[],s,os,s'=>os=[]/\s'=s
 |r::l,s,os,s'=>∃d x os',os=(d,x)::os'/\mz P r s d x/\nJ P l (after s r d x) os' s'
section
variable {P:Program}
theorem nJ.length:∀{l:List RI}{s s':St}{os:List (D×List Ent)},nJ P l s os s'->os.length=l.length
 |[],s,s',os,h=>by simp[h.1]
 |r::l,s,s',os,h=>by
  obtain⟨d,x,os',rfl,_,h⟩:=h;simp[nJ.length h]
def lz(rl:List RI) (os:List (D×List Ent)) (s:St) (L:Nat->Bool) (n:Nat):St:=
 ⟨tS (λi=>(rl.getD i (.op none none (.mv (.const undef)))).dst) (λi=>(os.getD i (.dead,[])).1) L s.t n,mS (λi=>(os.getD i (.dead,[])).2) L s.m n⟩
theorem PH(s:St) (r:RI) (d:D) (x:List Ent):(after s r d x).t=(match r.dst with|some y=>s.t.set y d|none=>s.t)/\(after s r d x).m=s.m++x:=by
 unfold after St.put
 grind
theorem nJ.get{rl:List RI}{os:List (D×List Ent)}{s0:St}:∀{l:List RI}{k:Nat}{s':St}{os':List (D×List Ent)},l=(rl.drop k).take l.length->os'=(os.drop k).take os'.length->nJ P l (lz rl os s0 (λ_=>true) k) os' s'->
 (∀i,i<l.length->mz P (rl.getD (k+i) (.op none none (.mv (.const undef)))) (lz rl os s0 (λ_=>true) (k+i)) (os.getD (k+i) (.dead,[])).1 (os.getD (k+i) (.dead,[])).2)/\s'=lz rl os s0 (λ_=>true) (k+l.length)
 |[],k,s',os',_,_,h=>⟨λi hi=>by grind,by simpa using h.2⟩
 |r::l,k,s',os',c,h2,h=>by
  obtain⟨d,x,a,rfl,hs,h⟩:=h;have hr:rl[k]?=some r:=by
   have:=congrArg (λl=>l[0]?) c
   grind
  have ho:os[k]?=some (d,x):=by
   have:=congrArg (λl=>l[0]?) h2
   grind
  have hr':rl.getD k (.op none none (.mv (.const undef)))=r:=by simp_all
  have ho':os.getD k (.dead,[])=(d,x):=by simp_all
  have b:after (lz rl os s0 (λ_=>true) k) r d x=lz rl os s0 (λ_=>true) (k+1):=by
   have ha:=PH (lz rl os s0 (λ_=>true) k) r d x;have:after (lz rl os s0 (λ_=>true) k) r d x=⟨(after (lz rl os s0 (λ_=>true) k) r d x).t,(after (lz rl os s0 (λ_=>true) k) r d x).m⟩:=rfl
   simp_all[lz,tS,mS]
  rw[b]at h;have t1:l=(rl.drop (k+1)).take l.length:=by
   grind[mab]
  have t2:a=(os.drop (k+1)).take a.length:=by
   grind[mab]
  obtain⟨g1,g2⟩:=nJ.get t1 t2 h;refine⟨λi hi=>?_,by grind⟩
  cases i with
  |zero=>grind
  |succ i=>
   have:=g1 i (by grind)
   grind
theorem filter_lt{L c:Nat->Bool}{i:Nat}(hi:L i=false) (d:∀j,c j=(L j || j==i)):∀{l:List Nat},i∈l->(l.filter λj=>!c j).length<(l.filter λj=>!L j).length
 |[],h=>by cases h
 |a::l,h=>by
  have mono:∀l:List Nat,(l.filter λj=>!c j).length<=(l.filter λj=>!L j).length:=by
   intro l
   induction l with
   |nil=>simp
   |cons b l f=>
    grind
  by_cases ha:a=i
  .grind
  .have e:i∈l:=by
    grind
   have f:=filter_lt hi d e
   grind
theorem Bt{ops:Array Oper}:∀{l:List Oper}{rl:List RI},mg P ops l=some rl->rl.length=l.length/\∀(i:Nat) o,l[i]?=some o->∃r,rl[i]?=some r/\Cn P ops o=some r
 |[],rl,h=>by grind[mg]
 |o::l,rl,h=>by
  simp only[mg]at h;split at h
  .rename_i r rs h1 h2;injection h with h;subst h;obtain⟨g1,g2⟩:=Bt h2
   grind
  .cases h
theorem av{ops:Array Oper}{o:Oper}{r:RI}(h:Cn P ops o=some r):r.dst=o.dst:=by
 unfold Cn at h;split at h
 .cases h
 .split at h
  .injection h with h;subst h;rfl
  .simp only[saa]at h;obtain⟨i,-,rfl⟩:=h;rfl
theorem K8{ops:Array Oper}{o:Oper}{r:RI}(hc:Cn P ops o=some r) {sc s:St}{d:D}{x:List Ent}(hf:mz P r sc d x) (ht:∀t∈r.reads,s.t.getD t .dead=sc.t.getD t .dead)
 (hm:r.cls=2->s.m=sc.m) (V:∀(id:Nat),(∃e,sc.m[id]?=some e)->id<s.m.length->s.m[id]?=sc.m[id]?) (F:r.cls<=2)
 {G:Gh} {w:World} {a:Act} (hr:Rel G w a s) {i:Nat} (hi:ops[i]?=some o) {Q:Exit->Act->World->Prop} {K:Act->World->Prop}
 (T:∀G' w' a',Rel G' w' a' (after s r d x)->Step G w s.m G' w' (s.m++x)->K a' w'):wpOp P ops Q i K a w:=by
 have hdst:=av hc;unfold wpOp;simp only[hi];unfold Cn at hc;split at hc
 .grind
 .rename_i g hg;obtain⟨hgate1,hgate2⟩:=Bm hr hg;have hgt:gate s g=gate sc g:=vE (λt h=>ht t (by
   split at hc
   .grind[RI.reads]
   .simp only[saa]at hc;obtain⟨i,-,rfl⟩:=hc
    grind[RI.reads]))
  have S:(gate sc g=some none\/∃c,gate sc g=some (some (c,c)))->Region.wanted o (yielded ops a.tmps)=true:=by
   grind
  have woff:(∃c b,gate sc g=some (some (c,b))/\c≠b)->Region.wanted o (yielded ops a.tmps)=false:=by
   grind
  have skip:d=.v undef->x=[]->K (a.put o.dst undef) w:=by
   rintro rfl rfl;refine T G w _ ?_ (by grind[Step.refl])
   simp_all[after,jA]
  split at hc
  .rename_i f args ho;injection hc with hc;subst hc;obtain⟨k,first,caps,hfe,rfl,hf⟩:=hf;have M:s.cv f=.fn k first caps:=by grind[RI.reads,WD]
   have z:args.map s.ev=args.map sc.ev:=map_congr (λt h=>ht t (by grind[RI.reads]));rcases hf with⟨B,A⟩|⟨N,hd⟩
   .rw[if_pos (S B)];refine .inl ?_;obtain⟨⟨fn,e1,e2,e3⟩,E⟩:=A s.m;obtain⟨fs,cs,O,X,Y⟩:=Zw hr ho (HT M) e1 e2 e3;rw[←z]at E;have q:=E G w (fs++args.map a.eval++cs) ((X.append (jx hr _)).append Y) hr.inv;unfold Oper.wp;rw[O,Oper.upon_enter];refine q.mono ?_;rintro e w' ⟨v,d',m',G',rfl,⟨rfl,rfl⟩,Z,U,C⟩;refine T G' w' _ ?_ (by simp_all);unfold after;rw[Xaa];exact(hr.step C.le U).put o.dst Z
   simp_all
  .rename_i hno;simp only[saa]at hc;obtain⟨j,hj,rfl⟩:=hc;rcases hf with⟨B,H⟩|⟨N,hd,hx⟩
   .rw[if_pos (S B)];refine .inl ?_;have J:ea s j=some (d,s.m++x):=by
     simp only[RI.cls]at F hm;have R:∀t∈j.reads,s.t.getD t .dead=sc.t.getD t .dead:=λt h=>ht t (by grind[RI.reads]);by_cases h2:j.cls=2
     .grind[oE]
     .have h1:j.cls<=1:=by omega
      obtain⟨hxm,hres⟩:=vo (s:=sc) (s':=s) h1 R (λy id hy l=>by
       refine V id (TB H hy l) ?_;have p:=hr.ev y;have L:s.ev y=sc.ev y:=ya (λt h=>R t (by
        cases j<;>simp only[I.E5,reduceCtorEq,aab]at hy<;>subst hy<;>simp[I.reads,h]))
       rw[L]at p;have hn:=hr.inv.n;generalize sc.ev y=dy at *;cases dy<;>simp only[Nd,reduceCtorEq,aab]at l
       .subst l;simp only[VRel]at p;omega
       .subst l;simp only[VRel]at p;omega
       .subst l;simp only[VRel]at p;omega
       .subst l;simp only[VRel]at p;omega) H
      simp_all
    exact hr.Up (ax hj hr J) λG' w' u W C=>T G' w' _ W C
   simp_all
end
open Go.RowKit (Below)
section
variable {P:Program}
theorem X1{ops:Array Oper}{Q:Exit->Act->World->Prop}{K:St->Prop}{o:Oper}{r:RI}{rs:List RI}{s:St}{G:Gh}{w:World}{a:Act}(h:Cn P ops o=some r) (p:Wi P (r::rs) K s) (hr:Rel G w a s)
 {i:Nat} (hi:ops[i]?=some o) {Kx:Act->World->Prop} (rest:∀{G':Gh} {w':World} {a':Act} {s':St},Wi P rs K s'->Rel G' w' a' s'->Step G w s.m G' w' s'.m->Kx a' w'):wpOp P ops Q i Kx a w:=by
 unfold wpOp;simp only[hi];unfold Cn at h;split at h
 .grind
 .rename_i g F;obtain⟨hgate1,hgate2⟩:=Bm hr F;have doI:∀{i:I} {d:D} {m':List Ent},Mp P ops o o.op=some i->ea s i=some (d,m')->Wi P rs K ({ s with m:=m' }.put o.dst d)->o.wp P a w Kx Q:=by
   intro i d m' hi he b;exact hr.Up (ax hi hr he) λG' w' u x n=>rest b x (by grind[nC])
  have skip:Wi P rs K (s.put o.dst (.v undef))->Kx (a.put o.dst undef) w:=λb=>rest b (jA hr o.dst) (by grind[nC,Step.refl]);split at h
  .rename_i f args ho;injection h with h;subst h;simp only[Wi]at p;split at p
   .rename_i k first caps q
    have doC:CallT P k (first++args.map s.ev++caps) s.m (λd m'=>Wi P rs K ({ s with m:=m' }.put o.dst d))->o.wp P a w Kx Q:=by
     rintro⟨⟨fn,B,C,E⟩,j⟩;obtain⟨fs,cs,l,y,z⟩:=Zw hr ho q B C E;have c:=j G w (fs++args.map a.eval++cs) ((y.append (jx hr _)).append z) hr.inv;unfold Oper.wp;rw[l,Oper.upon_enter];refine c.mono ?_;rintro e w' ⟨v,d,m',G',rfl,b,A,t,n⟩;exact rest b ((hr.step n.le t).put o.dst A) (by grind[nC])
    grind
   grind
  .rename_i hno;simp only[saa]at h;obtain⟨i,hi,rfl⟩:=h;simp only[Wi]at p
   grind
theorem IU{listed:Array Bool}{i j:Nat}(hi:i<listed.size) (d:Bool):(listed.setIfInBounds i true).getD j d=if j=i then true else listed.getD j d:=by
 simp only[Oac,Array.getElem?_setIfInBounds]
 grind
theorem IB{ops:Array Oper}{i:Nat}{o:Oper}(h:ops[i]?=some o):(Bb ops)[i]?=some ((o.after.toList.filter λe=>Region.binds .any e).map (·.on)):=by
 grind[Bb]
structure TailFacts (bs:List (List Nat)) (rl:List RI) (q:Nat):Prop where
 len:bs.length=rl.length
 hq:q<=rl.length
 back:∀(i:Nat) b,bs[i]?=some b->∀e∈b,e<i
 tail:∀(i j:Nat),i<j->q<=j->j<rl.length->((Mv bs).getD j 0).testBit i=true
theorem cJ{bs:List (List Nat)}{rl:List RI}{cuts:List Nat}{q:Nat}(h:bJ bs rl cuts q=true) :
 TailFacts bs rl q/\∀p∈cuts,∀(i j:Nat),i<p->p<=j->j<rl.length->((Mv bs).getD j 0).testBit i=true:=by
 unfold bJ at h;simp only[Caa,beq_iff_eq,decide_eq_true_eq,Yaa,Kac,yad]at h;obtain⟨⟨⟨⟨h0,a⟩,h2⟩,h3⟩,h4⟩:=h;refine⟨⟨a,h2,?_,?_⟩,?_⟩
 .simp_all[iab]
 all_goals grind
structure DrawFacts (bs:List (List Nat)) (rl:List RI) (q:Nat):Prop extends TailFacts bs rl q where
 cls:∀(j:Nat) y,j<q->rl[j]?=some y->y.cls<=2
 apart:∀(i j:Nat) x y,i<j->j<q->rl[i]?=some x->rl[j]?=some y->ry x y=true->((Mv bs).getD j 0).testBit i=true
theorem Nr{bs:List (List Nat)}{rl:List RI}{q:Nat}(h:TA bs rl q=true):DrawFacts bs rl q:=by
 unfold TA at h;simp only[Caa,beq_iff_eq,decide_eq_true_eq,Yaa,Kac]at h;obtain⟨⟨⟨a,h2⟩,h3⟩,h4⟩:=h;have hy:∀(j:Nat) y,rl[j]?=some y->j<rl.length:=λj y hj=>(iab.1 hj).1;refine⟨⟨a,h2,?_,?_⟩,?_,?_⟩
 rotate_left
 .grind
 rotate_right
 .simp_all[iab]
 all_goals grind
section
variable {ops:Array Oper} {Q:Exit->Act->World->Prop} {K:St->Prop} {rl:List RI} {q:Nat}
def vd(listed:Array Bool):Nat->Bool:=λi=>listed.getD i false
theorem Jt(hf:TailFacts (Bb ops) rl q) {listed:Array Bool}(hsz:listed.size=ops.size) (h:Closed (Bb ops) (vd listed)) {i:Nat}(hi:i∈Region.ready .any ops listed) :
 i<ops.size/\vd listed i=false/\(∀j,j≠i->((Mv (Bb ops)).getD i 0).testBit j=true->vd listed j=true)/\Closed (Bb ops) (vd (listed.setIfInBounds i true))/\
 (∀j,vd (listed.setIfInBounds i true) j=(vd listed j || j==i)):=by
 obtain⟨h0,o,ho,f⟩:=mem_ready.1 hi;have k:i<ops.size:=(Array.getElem?_eq_some_iff.1 ho).1;have g:vd listed i=false:=by
  grind[vd]
 have d:∀j,vd (listed.setIfInBounds i true) j=(vd listed j || j==i):=by
  intro j;unfold vd;rw[IU (by omega)]
  grind
 have c:Closed (Bb ops) (vd (listed.setIfInBounds i true)):=by
  intro j b hb hj e he;rw[d]at hj⊢;simp only[yad,beq_iff_eq]at hj⊢;rcases hj with hj|hj
  .exact .inl (h j b hb hj e he)
  .subst hj;have a:=IB ho;rw[hb]at a;injection a with a;subst a;simp only[List.mem_map,List.mem_filter,Array.mem_toList_iff]at he;obtain⟨ed,⟨l,h2⟩,rfl⟩:=he;exact .inl (f ed l h2)
 refine⟨k,g,λj hne hj=>?_,c,d⟩;have:=Zr c (e:=i) (by simp_all) hj
 simp_all
theorem Jw(hf:TailFacts (Bb ops) rl q) {listed:Array Bool}(hsz:listed.size=ops.size) (hno:Region.ready .any ops listed=[]):∀i,i<ops.size->vd listed i=true:=by
 intro i
 induction i using Aad with
 |_ i c=>
  intro hi;rcases hb:vd listed i with _|_
  .exfalso;have:i∈Region.ready .any ops listed:=by
    refine mem_ready.2 ⟨?_,ops[i],Lab hi,λe he hbi=>?_⟩
    .grind[vd]
    .have a:=IB (Lab hi);have b:=hf.back i _ a e.on (by
      grind)
     exact c e.on b (by omega)
   simp_all
  .rfl
theorem qx(hc:mg P ops ops.toList=some rl) (hf:TailFacts (Bb ops) rl q) :
 ∀(n r:Nat) (fuel:Nat) (listed:Array Bool) (s:St) (G:Gh) (w:World) (a:Act),ops.size-r=n->n<=fuel->q<=r->r<=ops.size->listed.size=ops.size->(∀i,vd listed i=decide (i<r))->
  Wi P (rl.drop r) K s->Rel G w a s->(∀s' G' w' a',K s'->Rel G' w' a' s'->Step G w s.m G' w' s'.m->Q .normal a' w')->wpAny P .any ops Q fuel listed a w:=by
 obtain⟨x,v⟩:=Bt hc;simp only[rac]at x;have c:∀(r:Nat) (L:Nat->Bool),(∀i,L i=decide (i<r))->Closed (Bb ops) L:=by
  intro r L u i b hb hi e he;have:=hf.back i b hb e he
  grind
 intro n
 induction n with
 |zero=>
  intro r fuel listed s G w a hn k hq hr f u t d hQ;have hrn:r=ops.size:=by omega
  have o:Region.ready .any ops listed=[]:=by
   cases hre:Region.ready .any ops listed with
   |nil=>rfl
   |cons i l=>
    obtain⟨M,h2,-⟩:=Jt hf f (c r _ u) (i:=i) (by simp_all)
    simp_all
  rw[vac (by omega)]at t;have g:=hQ s G w a t d (Step.refl _ _ _)
  cases fuel with
  |zero=>exact⟨o,g⟩
  |succ fuel=>exact⟨λ_=>g,λi hi=>by simp_all⟩
 |succ n O=>
  intro r fuel listed s G w a hn k hq hr f u t d hQ
  cases fuel with
  |zero=>omega
  |succ fuel=>
   have z:r<ops.size:=by omega
   refine⟨λF=>?_,λi hi=>?_⟩
   .have:=Jw hf f F r z
    simp_all
   .obtain⟨M,h2,N,h4,h5⟩:=Jt hf f (c r _ u) hi;have E:i=r:=by
     rw[u]at h2;simp at h2;rcases Wab r i with h|h
     .have:=N r (by omega) (hf.tail r i h (by omega) (by omega))
      simp_all
     omega
    subst E;have ho:ops[i]?=some ops[i]:=Lab M;obtain⟨T,hri,D⟩:=v i ops[i] (by simp);have y:rl.drop i=T::rl.drop (i+1):=by
     grind[mab]
    rw[y]at t;refine X1 D t d ho λC p H=>?_;refine O (i+1) fuel (listed.setIfInBounds i true) _ _ _ _ (by omega) (by omega) (by omega) (by omega) (by simp[f]) (λj=>?_) C p λI A J B R S k3=>hQ I A J B R S (H.trans k3)
    grind
theorem GF{dst:Nat->Option Tmp}{dd:Nat->D}{L a:Nat->Bool}(t0:List D):∀n,(∀j,j<n->L j=a j)->tS dst dd L t0 n=tS dst dd a t0 n
 |0,_=>rfl
 |n+1,h=>by simp only[tS,h n (by omega),GF t0 n λj hj=>h j (by omega)]
theorem ME{xx:Nat->List Ent}{L b:Nat->Bool}(a:List Ent):∀n,(∀j,j<n->L j=b j)->mS xx L a n=mS xx b a n
 |0,_=>rfl
 |n+1,h=>by simp only[mS,h n (by omega),ME a n λj hj=>h j (by omega)]
theorem JH{os:List (D×List Ent)}{s0:St}{L a:Nat->Bool}(n:Nat) (h:∀j,j<n->L j=a j):lz rl os s0 L n=lz rl os s0 a n:=by
 grind[lz,GF,ME]
theorem count_tail(q:Nat):∀n,((zaa n).filter λj=>!decide (j<q)).length=n-q
 |0=>by simp
 |n+1=>by
  rw[List.range_succ,List.filter_append,Taa,count_tail q n]
  grind
theorem getD_some{l:List RI}{i:Nat}(h:i<l.length) (d:RI):l[i]?=some (l.getD i d):=by
 simp_all
theorem vQ(hc:mg P ops ops.toList=some rl) (hf:DrawFacts (Bb ops) rl q) {os:List (D×List Ent)}{s0:St}
 (I:∀i,i<q->mz P (rl.getD i (.op none none (.mv (.const undef)))) (lz rl os s0 (λ_=>true) i) (os.getD i (.dead,[])).1 (os.getD i (.dead,[])).2)
 (B:∀i,i<q->(os.getD i (.dead,[])).2≠[]->(rl.getD i (.op none none (.mv (.const undef)))).cls=2)
 (hT:Wi P (rl.drop q) K (lz rl os s0 (λ_=>true) q)) :
 ∀(fuel:Nat) (listed:Array Bool) (G:Gh) (w:World) (a:Act),((zaa ops.size).filter λj=>!vd listed j).length<=fuel->listed.size=ops.size->Closed (Bb ops) (vd listed)->
  (∀j,q<=j->vd listed j=false)->Rel G w a (lz rl os s0 (vd listed) q)->
  (∀s' G' w' a',K s'->Rel G' w' a' s'->Step G w (lz rl os s0 (vd listed) q).m G' w' s'.m->Q .normal a' w')->wpAny P .any ops Q fuel listed a w:=by
 obtain⟨N,J⟩:=Bt hc;simp only[rac]at N;have hq:=hf.hq;intro fuel
 induction fuel with
 |zero=>
  intro listed G w a c p u E v hQ;have F:∀i,i<ops.size->vd listed i=true:=by
   simp_all
  have hqn:q=ops.size:=by
   rcases Wab q ops.size with h|h
   all_goals grind
  have C:lz rl os s0 (vd listed) q=lz rl os s0 (λ_=>true) q:=JH q λj hj=>F j (by omega);refine qx hc hf.toTailFacts 0 q 0 listed _ G w a (by omega) (Haa _) (Haa _) (by omega) p (λi=>?_) hT (by simp_all) (by grind)
  grind
 |succ fuel ih=>
  intro listed G w a c p u E v hQ;by_cases b:∀j,j<q->vd listed j=true
  ·
    have C:lz rl os s0 (vd listed) q=lz rl os s0 (λ_=>true) q:=JH q λj hj=>b j hj;have hL:∀i,vd listed i=decide (i<q):=λi=>by
     grind
    have hcnt:=count_tail q ops.size;simp only[hL]at c;exact qx hc hf.toTailFacts (ops.size-q) q (fuel+1) listed _ G w a rfl (by omega) (Haa _) (by omega) p hL hT (by simp_all) (by grind)
  .refine⟨λhno=>(b λj hj=>Jw hf.toTailFacts p hno j (by omega)).elim,λi hi=>?_⟩;obtain⟨h1,h2,h3,h4,V⟩:=Jt hf.toTailFacts p u hi;have n:i<q:=by
    rcases Wab i q with h|h
    .exact h
    .exact(b λj hj=>h3 j (by omega) (hf.tail j i (by omega) h (by omega))).elim
   have hri:=getD_some (l:=rl) (i:=i) (by omega) (.op none none (.mv (.const undef)));obtain⟨r,hr,Z⟩:=J i ops[i] (by simp);have hrr:rl.getD i (.op none none (.mv (.const undef)))=r:=by simp_all
   have early:∀j x,j<i->rl[j]?=some x->ry x r=true->vd listed j=true:=λj x hj hx d=>h3 j (by omega) (hf.apart j i x r hj n hx hr d);have late:∀j y,i<j->j<q->rl[j]?=some y->ry r y=true->vd listed j=false:=by
    intro j y hj hjq hy d;rcases hb:vd listed j with _|_
    .rfl
    .have:=Zr u hb (hf.apart i j r y hj hjq hr hy d)
     simp_all
   have g:∀j,j<q->rl[j]?=some (rl.getD j (.op none none (.mv (.const undef)))):=λj hj=>getD_some (by omega) _;have hF:=I i n;rw[hrr]at hF;have A:r.cls<=2:=hf.cls i r n hr;have O:∀j,j<q->(os.getD j (.dead,[])).2≠[]->(rl.getD j (.op none none (.mv (.const undef)))).cls=2:=B;have f:∀x y:RI,x.cls=2->y.cls=2->ry x y=true:=λx y hx hy=>by grind[ry]
   refine K8 Z hF (s:=lz rl os s0 (vd listed) q) ?_ ?_ ?_ A v (Lab h1) ?_
   ·
     intro y hy;refine lL s0.t (by omega) λj hj hd=>?_
     grind[ry]
   ·
     intro hcls;refine wK s0.m (by omega) λj hj hx=>?_
     grind
   ·
     rintro id ⟨e,he⟩ M;obtain⟨k,hk,R⟩:=kB (xx:=λi=>(os.getD i (.dead,[])).2) (L:=vd listed) s0.m q λi1 j1 hij hj hx1 hx2 W=>
      Zr u W (hf.apart i1 j1 _ _ hij hj (g i1 (by omega)) (g j1 hj) (f _ _ (O i1 (by omega) hx1) (O j1 hj hx2)))
     simp only[lz]at he M⊢;rw[R]at M⊢;rcases Pae i k with h|h
     .obtain⟨rr,S⟩:=kD (xx:=λi=>(os.getD i (.dead,[])).2) s0.m h
      grind
     .obtain⟨rr,S⟩:=kD (xx:=λi=>(os.getD i (.dead,[])).2) s0.m h
      grind
   ·
     intro G' w' a' o hs';have C:after (lz rl os s0 (vd listed) q) r (os.getD i (.dead,[])).1 (os.getD i (.dead,[])).2=lz rl os s0 (vd (listed.setIfInBounds i true)) q:=by
      obtain⟨X,Y⟩:=PH (lz rl os s0 (vd listed) q) r (os.getD i (.dead,[])).1 (os.getD i (.dead,[])).2;have H:∀z:St,z=⟨z.t,z.m⟩:=λz=>rfl;rw[H (after _ _ _ _),X,Y];simp only[lz,St.mk.injEq];constructor
      .rw[uP s0.t h2 V n ?_]
       all_goals grind[ry]
      .rw[QO s0.m h2 V n ?_]
       grind
     rw[C]at o;refine ih (listed.setIfInBounds i true) G' w' a' ?_ (by grind) h4 ?_ o ?_
     .have:=filter_lt h2 V (l:=zaa ops.size) (by grind);omega
     .grind
     .intro s'' T w'' U k1 k2 k3;refine hQ s'' T w'' U k1 k2 (hs'.trans ?_)
      grind[PH]
theorem zI{r:RI}{s:St}{d:D}{x:List Ent}(h:mz P r s d x) (a:r.cls<=2) (hx:x≠[]):r.cls=2:=by
 cases r with
 |call dst g f args=>
  obtain⟨_,_,_,_,h,_⟩:=h
  simp_all
 |op dst g i=>
  rcases h with⟨-,h⟩|⟨-,-,h⟩
  .simp only[RI.cls]at a⊢;rcases Wab i.cls 2 with h2|h2
   .obtain⟨hm,-⟩:=vo (s:=s) (s':=s) (by omega) (λ_ _=>rfl) (λ_ _ _ _=>rfl) h
    simp_all
   omega
  simp_all
theorem oM(Yt:P.follows .mixedOrders=true) (hc:mg P ops ops.toList=some rl) (g:TA (Bb ops) rl q=true) {s s1:St}{os:List (D×List Ent)}(p:nJ P (rl.take q) s os s1) (r:Wi P (rl.drop q) K s1)
 {id:Nat} {G:Gh} {w:World} {a:Act} (hr:Rel G w a s) (hQ:∀s' G' w' a',K s'->Rel G' w' a' s'->Step G w s.m G' w' s'.m->Q .normal a' w'):(Code.region id ops true).wp P Q a w:=by
 have hf:=Nr g;have c:(rl.take q).length=q:=by rw[vab];have:=hf.hq;omega
 have e:=p.length;rw[c]at e;have o:lz rl os s (λ_=>true) 0=s:=rfl;obtain⟨g1,g2⟩:=nJ.get (rl:=rl) (os:=os) (s0:=s) (k:=0) (l:=rl.take q) (os':=os) (s':=s1) (by simp) (by simp) (by rw[o];omega);simp only[c,Fab]at g1 g2;subst g2;have f:∀j,vd (Xab ops.size false) j=false:=by
  intro j;unfold vd;simp only[Oac,Had]
  grind
 have d:lz rl os s (vd (Xab ops.size false)) q=s:=by
  have ht:∀n,tS (λi=>(rl.getD i (.op none none (.mv (.const undef)))).dst) (λi=>(os.getD i (.dead,[])).1) (vd (Xab ops.size false)) s.t n=s.t:=by
   intro n
   induction n with
   |zero=>rfl
   |succ n u=>simp_all[tS]
  have hm:∀n,mS (λi=>(os.getD i (.dead,[])).2) (vd (Xab ops.size false)) s.m n=s.m:=by
   intro n
   induction n with
   |zero=>rfl
   |succ n u=>simp_all[mS]
  grind[lz]
 refine wp_region_any Yt ?_;have h:=Same.drew w;refine vQ hc hf g1 (λi hi hx=>zI (g1 i hi) (hf.cls i _ hi (getD_some (by grind) _)) hx) r ops.size _ G _ a ?_ (by simp) ?_ (λj _=>f j) ?_ ?_
 .grind
 .intro i b _ hi
  simp_all
 .rw[d];exact⟨hr.t.mono (h.le G),h.inv hr.inv,hr.defers⟩
 .intro s' G' w' a' v x k3;rw[d]at k3;exact hQ s' G' w' a' v x ((h.step G s.m).trans k3)
end
end
section
variable {P:Program} {N:Nat}
def mJ(P:Program):Nat->List RI->(St->Prop)->St->Prop
 |0,l,K,s=>Wi P l K s
 |_+1,[],_,_=>False
 |q+1,.op dst g i::l,K,s=>
  match gate s g with
  |none=>False
  |some none=>∃d m',ea s i=some (d,m')/\mJ P q l K ({ s with m:=m' }.put dst d)
  |some (some (c,b))=>(c=b->∃d m',ea s i=some (d,m')/\mJ P q l K ({ s with m:=m' }.put dst d))/\(c≠b->mJ P q l K (s.put dst (.v undef)))
 |q+1,.call dst g f args::l,K,s=>
  match s.cv f with
  |.fn k first caps=>
   match gate s g with
   |none=>False
   |some none=>∃d,(∀m,CallT P k (first++args.map s.ev++caps) m λd' m'=>d'=d/\m'=m)/\mJ P q l K (s.put dst d)
   |some (some (c,b))=>(c=b->∃d,(∀m,CallT P k (first++args.map s.ev++caps) m λd' m'=>d'=d/\m'=m)/\mJ P q l K (s.put dst d))/\(c≠b->mJ P q l K (s.put dst (.v undef)))
  |_=>False
section
variable {ops:Array Oper} {Q:Exit->Act->World->Prop} {K:St->Prop} {rl:List RI} {q:Nat}
end
theorem px:∀{q:Nat}{l:List RI}{K:St->Prop}{s:St},mJ P q l K s->(∀(j:Nat) y,j<q->l[j]?=some y->y.cls<=2)->∃os s1,nJ P (l.take q) s os s1/\Wi P (l.drop q) K s1
 |0,l,K,s,h,_=>⟨[],s,by simp[nJ],by simpa [mJ] using h⟩
 |q+1,[],K,s,h,_=>by simp[mJ]at h
 |q+1,.op dst g i::l,K,s,h,hc=>by
  have hci:i.cls<=2:=hc 0 _ (by omega) rfl;have o:∀(j:Nat) y,j<q->l[j]?=some y->y.cls<=2:=λj y hj u=>hc (j+1) y (by omega) (by simp_all);have ext:∀{d:D} {m':List Ent},ea s i=some (d,m')->∃x,m'=s.m++x:=λ{d m'} he=>by
   rcases Wab i.cls 2 with h2|h2
   .exact⟨[],by rw[Xaa];exact(vo (s:=s) (s':=s) (by omega) (λ_ _=>rfl) (λ_ _ _ _=>rfl) he).1⟩
   .obtain⟨-,e,h⟩:=oE (s:=s) (s':=s) (by omega) (λ_ _=>rfl) rfl he
    simp_all
  have on:∀{d:D} {m':List Ent},ea s i=some (d,m')->(gate s g=some none\/∃c,gate s g=some (some (c,c)))->mJ P q l K ({ s with m:=m' }.put dst d)->
   ∃os s1,nJ P ((RI.op dst g i::l).take (q+1)) s os s1/\Wi P ((RI.op dst g i::l).drop (q+1)) K s1:=by
   intro d m' he p r;obtain⟨x,rfl⟩:=ext he;obtain⟨os,s1,t,h2⟩:=px r o;exact⟨(d,x)::os,s1,by simp only[Aab,nJ];exact⟨d,x,os,rfl,.inl ⟨p,he⟩,t⟩,by simp_all⟩
  simp only[mJ]at h;split at h
  .simp_all
  .grind
  .rename_i c b p;by_cases n:c=b
   .subst n;obtain⟨d,m',he,r⟩:=h.1 rfl
    simp_all
   .obtain⟨os,s1,t,h2⟩:=px (h.2 n) o;refine⟨(.v undef,[])::os,s1,?_,by simp_all⟩;simp only[Aab,nJ];refine⟨_,_,os,rfl,.inr ⟨⟨c,b,p,n⟩,rfl,rfl⟩,?_⟩;have:after s (.op dst g i) (.v undef) []=s.put dst (.v undef):=by unfold after;rw[Xaa];rfl
    simp_all
 |q+1,.call dst g f args::l,K,s,h,hc=>by
  have o:∀(j:Nat) y,j<q->l[j]?=some y->y.cls<=2:=λj y hj u=>hc (j+1) y (by omega) (by simp_all);have haf:∀d,after s (.call dst g f args) d []=s.put dst d:=λd=>by unfold after;rw[Xaa];rfl
  simp only[mJ]at h;split at h
  .rename_i k first caps hf
   split at h
   .simp_all
   .rename_i p;obtain⟨d,a,r⟩:=h;obtain⟨os,s1,t,h2⟩:=px r o;refine⟨(d,[])::os,s1,?_,by simp_all⟩;simp only[Aab,nJ];exact⟨d,[],os,rfl,⟨k,first,caps,hf,rfl,.inl ⟨.inl p,a⟩⟩,by simp_all⟩
   .rename_i c b p;by_cases n:c=b
    .subst n;obtain⟨d,a,r⟩:=h.1 rfl;obtain⟨os,s1,t,h2⟩:=px r o;refine⟨(d,[])::os,s1,?_,by simp_all⟩;simp only[Aab,nJ];exact⟨d,[],os,rfl,⟨k,first,caps,hf,rfl,.inl ⟨.inr ⟨c,p⟩,a⟩⟩,by simp_all⟩
    .obtain⟨os,s1,t,h2⟩:=px (h.2 n) o;refine⟨(.v undef,[])::os,s1,?_,by simp_all⟩;simp only[Aab,nJ];exact⟨_,[],os,rfl,⟨k,first,caps,hf,rfl,.inr ⟨⟨c,b,p,n⟩,rfl⟩⟩,by simp_all⟩
  simp_all
theorem T.draw{q:Nat}{l:List RI}{K:Exit->St->Prop}{s:St}(hm:P.follows .mixedOrders=true) (h:mJ P q l (K .normal) s):T P N (.draw q l) K s:=by
 intro code hc G w a hN hr;obtain⟨id,ops,rfl,c,b⟩:=RA hc;obtain⟨os,s1,d,h2⟩:=px h (Nr b).cls;exact oM hm c b d h2 hr λs' G' w' a' e f k3=>⟨s',G',e,f,k3.lX hN⟩
end
section
variable (ww:Nat->Option (Nat×Ent)) (L:Nat->Bool)
def sS(m:List Ent):Nat->List Ent
 |0=>m
 |n+1=>if L n then(match ww n with|some (id,e)=>(sS m n).set id e|none=>sS m n)else sS m n
def Iw(id:Nat):Nat->Option Ent
 |0=>none
 |n+1=>if L n then(match ww n with|some (j,e)=>if j=id then some e else Iw id n|none=>Iw id n)else Iw id n
end
section
variable {ww:Nat->Option (Nat×Ent)} {L:Nat->Bool}
theorem rn(m:List Ent):∀n,(sS ww L m n).length=m.length
 |0=>rfl
 |n+1=>by
  simp only[sS]
  repeat' split
  all_goals simp[rn m n]
theorem AF(m:List Ent) (id:Nat):∀n,id<m.length->(sS ww L m n)[id]?=(match Iw ww L id n with|some e=>some e|none=>m[id]?)
 |0,h=>rfl
 |n+1,h=>by
  simp only[sS,Iw];split
  .split
   .rename_i j e hw;rw[Mad];by_cases hj:j=id
    .subst hj;rw[if_pos rfl,if_pos rfl,if_pos (by grind[rn])]
    .rw[if_neg hj,if_neg hj];exact AF m id n h
   .exact AF m id n h
  .exact AF m id n h
theorem RM{id i:Nat}:∀{q:Nat},i<=q->(∀j,j<q->∀e,ww j=some (id,e)->(L j=true↔j<i))->Iw ww L id q=Iw ww (λ_=>true) id i:=by
 have h1:∀n,n<=i->(∀j,j<n->∀e,ww j=some (id,e)->L j=true)->Iw ww L id n=Iw ww (λ_=>true) id n:=by
  intro n
  induction n with
  |zero=>intro _ _;rfl
  |succ n a=>
   grind[Iw]
 intro q
 induction q with
 |zero=>
  simp_all
 |succ q a=>
  grind[Iw]
theorem BN(m x:List Ent):∀n,(∀j,j<n->L j=true->∀id e,ww j=some (id,e)->id<m.length)->sS ww L (m++x) n=sS ww L m n++x
 |0,_=>rfl
 |n+1,h=>by
  have ih:=BN m x n λj hj=>h j (by omega);simp only[sS];split
  .rename_i hL;split
   all_goals grind[rn]
  omega
theorem C2(m:List Ent) {a:Nat->Bool}{i:Nat}(hi:L i=false) (hL':∀j,a j=(L j || j==i)):∀{q:Nat},i<q->(∀j,i<j->j<q->L j=true->∀id e e',ww i=some (id,e)->ww j≠some (id,e'))->
 sS ww a m q=(match ww i with|some (id,e)=>(sS ww L m q).set id e|none=>sS ww L m q):=by
 have hlow:∀n,n<=i->sS ww a m n=sS ww L m n:=by
  intro n
  induction n with
  |zero=>intro _;rfl
  |succ n d=>
   grind[sS]
 intro q
 induction q with
 |zero=>omega
 |succ q d=>
  intro hq hw;by_cases hqi:q=i
  .simp_all[sS]
  .have f:a q=L q:=by simp_all
   have c:=d (by omega) λj hj hjq=>hw j hj (by omega);simp only[sS,f,c]
   cases hdi:ww i with
   |none=>simp
   |some p=>
    obtain⟨id,e⟩:=p;simp only;split
    .rename_i hLq;split
     .rename_i b e' hz;have hne:id≠b:=by
       grind
      grind[Lae]
     .rfl
    .rfl
end
def I.UR:I->Option Operand
 |.store _ x _=>some x
 |.trunc _ x _ _=>some x
 |.append _ _ x _=>some x
 |_=>none
def I.src:I->Option Operand
 |.append _ _ _ y=>some y
 |_=>none
def Jf(s:St):I->Bool
 |.trunc _ x _ _=>match s.ev x with|.own ..=>true|_=>false
 |.append _ _ x _=>match s.ev x with|.own ..=>true|_=>false
 |_=>true
theorem tD{i:I}{x:Operand}(h:i.UR=some x):i.cls=3/\((∃n y,i=.store n x y)\/(∃S lo hi,i=.trunc S x lo hi)\/∃S b y,i=.append S b x y):=by
 cases i<;>simp[I.UR]at h
 .subst h;exact⟨rfl,.inl ⟨_,_,rfl⟩⟩
 .subst h;exact⟨rfl,.inr (.inr ⟨_,_,_,rfl⟩)⟩
 .subst h;exact⟨rfl,.inr (.inl ⟨_,_,_,rfl⟩)⟩
theorem CM{s:St}{n:Nat}{x y:Operand}{d:D}{m1:List Ent}(he:ea s (.store n x y)=some (d,m1)) :
 ∃id e,Nd (s.ev x)=some id/\m1=s.m.set id e/\(∃a,s.m[id]?=some a)/\
  ∀s':St,(∀t∈(I.store n x y).reads,s'.t.getD t .dead=s.t.getD t .dead)->s'.m[id]?=s.m[id]?->ea s' (.store n x y)=some (d,s'.m.set id e):=by
 simp only[ea]at he;split at he
 .rename_i id Na ix sub hx;split at he
  .rename_i S ver' l hm;split at he
   .rename_i hc;simp only[aac]at he;obtain⟨d0,h0,he⟩:=he;split at he
    .rename_i hc2;injection he with he;injection he with b h2;subst b;subst h2;refine⟨id,_,by rw[hx];rfl,rfl,⟨_,hm⟩,λs' ht hm'=>?_⟩;have ex:s'.ev x=s.ev x:=ya (λt h=>ht t (by grind[I.reads]));have ey:s'.ev y=s.ev y:=ya (λt h=>ht t (by grind[I.reads]))
     simp_all[ea]
    simp_all
   simp_all
  simp_all
 simp_all
theorem DM{s:St}{S:Nat}{x:Operand}{lo hi:Option Operand}{d:D}{m1:List Ent}(hb:Jf s (.trunc S x lo hi)=true) (he:ea s (.trunc S x lo hi)=some (d,m1)) :
 ∃id e,Nd (s.ev x)=some id/\m1=s.m.set id e/\(∃b,s.m[id]?=some b)/\
  ∀s':St,(∀t∈(I.trunc S x lo hi).reads,s'.t.getD t .dead=s.t.getD t .dead)->s'.m[id]?=s.m[id]?->ea s' (.trunc S x lo hi)=some (d,s'.m.set id e):=by
 simp only[Jf]at hb;split at hb
 .rename_i id Na hx;simp only[ea,hx]at he;split at he
  .rename_i S' ver' l hm;split at he
   .rename_i a h hlo hhi;split at he
    .rename_i hc;injection he with he;injection he with c h2;subst c;subst h2;refine⟨id,_,by rw[hx];rfl,rfl,⟨_,hm⟩,λs' ht hm'=>?_⟩;have ex:s'.ev x=s.ev x:=ya (λt h=>ht t (by grind[I.reads]));have e1:bound s' 0 lo=bound s 0 lo:=so (λt h=>ht t (by grind[I.reads]));have e2:bound s' l.length hi=bound s l.length hi:=so (λt h=>ht t (by grind[I.reads]))
     simp_all[ea]
    simp_all
   simp_all
  simp_all
 simp_all
theorem VD{S:Nat}{m m':List Ent}{d:D}(h:∀id,Nd d=some id->m'[id]?=m[id]?):contents S m' d=contents S m d:=by
 cases d with
 |own id v=>simp only[contents];rw[h _ rfl]
 |view id v a b=>simp only[contents];rw[h _ rfl]
 |v x=>simp only[contents];grind
 |_=>rfl
theorem EM{s:St}{S b:Nat}{x y:Operand}{d:D}{m1:List Ent}(hb:Jf s (.append S b x y)=true) (he:ea s (.append S b x y)=some (d,m1)) :
 ∃id e,Nd (s.ev x)=some id/\m1=s.m.set id e/\(∃f,s.m[id]?=some f)/\
  ∀s':St,(∀t∈(I.append S b x y).reads,s'.t.getD t .dead=s.t.getD t .dead)->s'.m[id]?=s.m[id]?->(∀a,Nd (s.ev y)=some a->s'.m[a]?=s.m[a]?)->ea s' (.append S b x y)=some (d,s'.m.set id e):=by
 simp only[Jf]at hb;split at hb
 .rename_i id Na hx;simp only[ea,hx]at he;split at he
  .rename_i r hr;split at he
   .rename_i S' ver' l hm;split at he
    .rename_i hc;injection he with he;injection he with i h2;subst i;subst h2;refine⟨id,_,by rw[hx];rfl,rfl,⟨_,hm⟩,λs' ht c j=>?_⟩;have ex:s'.ev x=s.ev x:=ya (λt h=>ht t (by grind[I.reads]));have g:s'.ev y=s.ev y:=ya (λt h=>ht t (by grind[I.reads]));simp only[ea,ex,hx,c,hm,g,VD j,hr]
     simp_all
    simp_all
   simp_all
  simp_all
 simp_all
theorem cH{s:St}{i:I}{x:Operand}{d:D}{m1:List Ent}(ht:i.UR=some x) (hb:Jf s i=true) (he:ea s i=some (d,m1)) :
 ∃id e,Nd (s.ev x)=some id/\m1=s.m.set id e/\(∃c,s.m[id]?=some c)/\
  (∀s':St,(∀t∈i.reads,s'.t.getD t .dead=s.t.getD t .dead)->s'.m[id]?=s.m[id]?->(∀y,i.src=some y->∀a,Nd (s.ev y)=some a->s'.m[a]?=s.m[a]?)->ea s' i=some (d,s'.m.set id e)):=by
 rcases(tD ht).2 with⟨n,y,rfl⟩|⟨S,lo,hi,rfl⟩|⟨S,b,y,rfl⟩
 .grind[CM]
 .grind[DM]
 .obtain⟨id,e,f,h2,g,h⟩:=EM hb he;exact⟨id,e,f,h2,g,λs' j k k3=>h s' j k (k3 y rfl)⟩
theorem xI{s:St}{i:I}{y:Operand}{d:D}{m1:List Ent}(f:i.src=some y) (he:ea s i=some (d,m1)) {id:Nat}(h:Nd (s.ev y)=some id):∃e,s.m[id]?=some e:=by
 obtain⟨S,b,x,rfl⟩:∃S b x,i=.append S b x y:=by cases i<;>simp[I.src]at f;simp_all
 simp only[ea]at he;split at he
 .rename_i r hr
  cases g:s.ev y with
  |own a b=>grind[Nd,contents]
  |view a b c e=>grind[Nd,contents]
  |ref a b c e=>grind[contents]
  |mp a=>grind[contents]
  |_=>rw[g]at h;simp[Nd]at h
 simp_all
theorem VR{i:I}{x:Operand}(ht:i.UR=some x):∀t∈Xe x,t∈i.reads:=by
 rcases(tD ht).2 with⟨n,y,rfl⟩|⟨S,lo,hi,rfl⟩|⟨S,b,y,rfl⟩<;>intro t h<;>simp[I.reads,h]
theorem NN{i:I}{x:Operand}(ht:i.UR=some x):i.E5=none:=by
 rcases(tD ht).2 with⟨n,y,rfl⟩|⟨S,lo,hi,rfl⟩|⟨S,b,y,rfl⟩<;>rfl
theorem UB{s s':St}{i:I}{d:D}(hc:i.cls=2) (ht:∀t∈i.reads,s'.t.getD t .dead=s.t.getD t .dead) (hm:s'.m.length=s.m.length) {m1:List Ent}(he:ea s i=some (d,m1)) :
 ∃e,m1=s.m++[e]/\ea s' i=some (d,s'.m++[e]):=by
 cases i with
 |alloc S z=>
  simp only[ea,aab,Paa]at he⊢
  simp_all
 |box S x=>
  simp only[ea]at he⊢;rw[ya (s:=s) (s':=s') (x:=x) (λt h=>ht t (by grind[I.reads]))]
  simp_all
 |bslice S n z ps=>
  grind[ea,I.reads,mq,saa]
 |mkslice S b z l c=>
  simp only[ea]at he⊢;rw[ya (s:=s) (s':=s') (x:=l) (λt h=>ht t (by grind[I.reads])),ya (s:=s) (s':=s') (x:=c) (λt h=>ht t (by grind[I.reads]))]
  grind
 |mkmap=>
  simp only[ea,aab,Paa]at he⊢
  simp_all
 |_=>simp[I.cls]at hc
mutual
def Cl:D->List Nat
 |.agg l=>Yj l
 |.tup l=>Yj l
 |.sl _ l=>Yj l
 |.pt d=>Cl d
 |.fn _ a b=>Yj a++Yj b
 |.ifc _ d=>Cl d
 |.own id _=>[id]
 |.view id _ _ _=>[id]
 |.ref id _ _ _=>[id]
 |.mp id=>[id]
 |.v _=>[]
 |.dead=>[]
def Yj:List D->List Nat
 |[]=>[]
 |d::l=>Cl d++Yj l
end
mutual
theorem GI:∀{d:D},la d=true->Cl d=[]
 |.v _,_=>rfl
 |.agg l,h=>by simp only[la]at h;simp only[Cl,Fs h]
 |.tup l,h=>by simp only[la]at h;simp only[Cl,Fs h]
 |.sl _ l,h=>by simp only[la]at h;simp only[Cl,Fs h]
 |.pt d,h=>by simp only[la]at h;simp only[Cl,GI h]
 |.fn _ a b,h=>by simp only[la,Caa]at h;simp only[Cl,Fs h.1,Fs h.2,Xaa]
 |.ifc _ d,h=>by simp only[la]at h;simp only[Cl,GI h]
 |.own ..,h=>by grind[la]
 |.view ..,h=>by grind[la]
 |.ref ..,h=>by grind[la]
 |.mp _,h=>by grind[la]
 |.dead,_=>rfl
theorem Fs:∀{l:List D},fa l=true->Yj l=[]
 |[],_=>rfl
 |d::l,h=>by simp only[fa,Caa]at h;simp only[Yj,GI h.1,Fs h.2,Xaa]
end
def Mb(s:St):List Operand->List Nat
 |[]=>[]
 |x::l=>Cl (s.ev x)++Mb s l
theorem DB{s:St}:∀{l:List Operand},Mb s l=Yj (l.map s.ev)
 |[]=>rfl
 |x::l=>by simp only[Mb,Gaa,Yj,DB (l:=l)]
mutual
theorem bD{G:Gh}{w:World}{id:Nat}:∀{d:D}{u:Value},VRel G w d u->id∈Cl d->id<G.n
 |.v x,u,h,hi=>by grind[Cl]
 |.agg l,u,h,hi=>by
  simp only[VRel]at h;simp only[Cl]at hi;obtain⟨cs,rfl,h,-⟩:=h;exact Es h hi
 |.tup l,u,h,hi=>by
  simp only[VRel]at h;simp only[Cl]at hi;obtain⟨cs,rfl,h⟩:=h;exact Es h hi
 |.sl S l,u,h,hi=>by
  simp only[VRel]at h;simp only[Cl]at hi;obtain⟨a,n,c,rfl,-,-,h|⟨b,off,rfl,-,h⟩⟩:=h
  .grind[Yj]
  .exact jH h hi
 |.pt d,u,h,hi=>by
  simp only[VRel]at h;simp only[Cl]at hi;obtain⟨b,off,x,rfl,-,h,-⟩:=h;exact bD h hi
 |.ref a b c e,u,h,hi=>by
  simp only[VRel]at h;grind[Cl]
 |.own a b,u,h,hi=>by
  simp only[VRel]at h;grind[Cl]
 |.view a b c e,u,h,hi=>by
  simp only[VRel]at h;grind[Cl]
 |.fn f a b,u,h,hi=>by
  simp only[VRel]at h;simp only[Cl,bab]at hi;obtain⟨fs,cs,rfl,g,h2⟩:=h;rcases hi with hi|hi
  .exact Es g hi
  .exact Es h2 hi
 |.mp a,u,h,hi=>by
  simp only[VRel]at h;grind[Cl]
 |.ifc t d,u,h,hi=>by
  simp only[VRel]at h;simp only[Cl]at hi;obtain⟨x,rfl,h⟩:=h;exact bD h hi
 |.dead,u,h,hi=>by grind[Cl]
theorem Es{G:Gh}{w:World}{id:Nat}:∀{l:List D}{us:List Value},VsRel G w l us->id∈Yj l->id<G.n
 |[],us,h,hi=>by grind[Yj]
 |d::l,us,h,hi=>by
  simp only[VsRel]at h;simp only[Yj,bab]at hi;obtain⟨u,r,rfl,a,h2⟩:=h;rcases hi with hi|hi
  .exact bD a hi
  .exact Es h2 hi
theorem jH{G:Gh}{w:World}{id b S:Nat}:∀{l:List D}{off:Nat},Qa G w b S l off->id∈Yj l->id<G.n
 |[],off,h,hi=>by grind[Yj]
 |d::l,off,h,hi=>by
  simp only[Qa]at h;simp only[Yj,bab]at hi;obtain⟨⟨u,a,-⟩,h2⟩:=h;rcases hi with hi|hi
  .exact bD a hi
  .exact jH h2 hi
end
def Cr(s:St):List Operand->List Nat
 |[]=>[]
 |x::l=>match Nd (s.ev x)with|some id=>id::Cr s l|none=>Cr s l
def Rl(s:St):RI->List Nat
 |.op _ _ i=>
  match i.E5 with
  |some x=>Cr s [x]
  |none=>match i.UR with|some x=>Cr s (x::i.src.toList)|none=>[]
 |.call _ _ _ args=>Mb s args
theorem yP{s:St}{x:Operand}{l:List Operand}{id:Nat}(h:Nd (s.ev x)=some id):id∈Cr s (x::l):=by grind[Cr]
theorem M4{s:St}{x:Operand}{l:List Operand}{id:Nat}(h:id∈Cr s l):id∈Cr s (x::l):=by grind[Cr]
theorem CL{s:St}{x:Operand}{id:Nat}(h:Nd (s.ev x)=some id):id∈Cr s [x]:=by grind[Cr]
abbrev Os:=List (D×List Ent×Option (Nat×Ent))
def os0:D×List Ent×Option (Nat×Ent):=(.dead,[],none)
def oP:RI:=.op none none (.mv (.const undef))
def iu(P:Program) (r:RI) (s:St) (d:D) (x:List Ent) (w:Option (Nat×Ent)):Prop:=
 match r with
 |.op _ g i=>((gate s g=some none\/∃c,gate s g=some (some (c,c)))/\
  ((w=none/\i.cls<=2/\ea s i=some (d,s.m++x))\/(x=[]/\∃a id e,i.UR=some a/\Nd (s.ev a)=some id/\w=some (id,e)/\ea s i=some (d,s.m.set id e)/\id<s.m.length/\Jf s i=true)))\/
  ((∃c b,gate s g=some (some (c,b))/\c≠b)/\d=.v undef/\x=[]/\w=none)
 |.call _ g f args=>x=[]/\w=none/\
  ((∃k first caps,s.cv f=.fn k first caps/\(gate s g=some none\/∃c,gate s g=some (some (c,c)))/\(∀id∈Mb s args,id<s.m.length)/\∀m,(∀id∈Mb s args,m[id]?=s.m[id]?)->CallT P k (first++args.map s.ev++caps) m λd' m'=>d'=d/\m'=m)\/((∃c b,gate s g=some (some (c,b))/\c≠b)/\d=.v undef))
def wr(m:List Ent) (w:Option (Nat×Ent)):List Ent:=match w with|some (id,e)=>m.set id e|none=>m
def pk(s:St) (r:RI) (d:D) (x:List Ent) (w:Option (Nat×Ent)):St:=({ s with m:=wr s.m w++x }:St).put r.dst d
theorem HD(s:St) (r:RI) (d:D) (x:List Ent) (w:Option (Nat×Ent)):pk s r d x w=⟨(match r.dst with|some y=>s.t.set y d|none=>s.t),wr s.m w++x⟩:=by
 grind[pk,St.put]
section
variable {P:Program}
def wQ(rl:List RI) (i:Nat):Option Tmp:=(rl.getD i oP).dst
def c8(os:Os) (i:Nat):D:=(os.getD i os0).1
def iG(os:Os) (i:Nat):List Ent:=(os.getD i os0).2.1
def EP(os:Os) (i:Nat):Option (Nat×Ent):=(os.getD i os0).2.2
def Jm(rl:List RI) (os:Os) (s:St) (L:Nat->Bool) (n:Nat):St:=
 ⟨tS (wQ rl) (c8 os) L s.t n,sS (EP os) L (mS (iG os) L s.m n) n⟩
theorem iu.lt{r:RI}{s:St}{d:D}{x:List Ent}{w:Option (Nat×Ent)}(h:iu P r s d x w) {id:Nat}{e:Ent}(hw:w=some (id,e)):id<s.m.length/\x=[]/\id∈Rl s r:=by
 subst hw
 cases r with
 |call dst g f args=>obtain⟨_,h,_⟩:=h;cases h
 |op dst g i=>
  rcases h with⟨_,⟨h,_⟩|⟨hx,a,id',e',ht,h1,h2,h3,h4,_⟩⟩|⟨_,_,_,h⟩
  all_goals grind[Rl,NN,yP]
theorem rN{G:Gh}{w:World}{a:Act}{s:St}(hr:Rel G w a s) {x:Operand}{id:Nat}(h:Nd (s.ev x)=some id):id<s.m.length:=by
 have hv:=hr.ev x;have hn:=hr.inv.n;generalize s.ev x=d at *;cases d<;>simp only[Nd,reduceCtorEq,aab]at h
 .subst h;simp only[VRel]at hv;omega
 .subst h;simp only[VRel]at hv;omega
 .subst h;simp only[VRel]at hv;omega
 .subst h;simp only[VRel]at hv;omega
theorem SY{ops:Array Oper}{o:Oper}{r:RI}(hc:Cn P ops o=some r) {sc s:St}{d:D}{x:List Ent}{H:Option (Nat×Ent)}(hf:iu P r sc d x H) (ht:∀t∈r.reads,s.t.getD t .dead=sc.t.getD t .dead)
 (hm:r.cls=2->s.m.length=sc.m.length) (U:∀(id:Nat),id∈Rl sc r->(∃e,sc.m[id]?=some e)->id<s.m.length->s.m[id]?=sc.m[id]?)
 {G:Gh} {w:World} {a:Act} (hr:Rel G w a s) {i:Nat} (hi:ops[i]?=some o) {Q:Exit->Act->World->Prop} {K:Act->World->Prop}
 (Z:∀G' w' a',Rel G' w' a' (pk s r d x H)->Step G w s.m G' w' (wr s.m H++x)->(∀id e,H=some (id,e)->id<s.m.length)->K a' w'):wpOp P ops Q i K a w:=by
 have O:=av hc;unfold wpOp;simp only[hi];unfold Cn at hc;split at hc
 .grind
 .rename_i g hg;obtain⟨hgate1,hgate2⟩:=Bm hr hg;have hgt:gate s g=gate sc g:=vE (λt h=>ht t (by
   split at hc
   .grind[RI.reads]
   .simp only[saa]at hc;obtain⟨i,-,rfl⟩:=hc
    grind[RI.reads]))
  have Y:(gate sc g=some none\/∃c,gate sc g=some (some (c,c)))->Region.wanted o (yielded ops a.tmps)=true:=by
   grind
  have woff:(∃c b,gate sc g=some (some (c,b))/\c≠b)->Region.wanted o (yielded ops a.tmps)=false:=by
   grind
  have skip:d=.v undef->x=[]->H=none->K (a.put o.dst undef) w:=by
   rintro rfl rfl rfl;refine Z G w _ ?_ (by rw[Xaa];exact Step.refl _ _ _) (λ_ _ h=>by cases h);unfold pk;rw[O,Xaa];exact jA hr o.dst
  split at hc
  .rename_i f args ho;injection hc with hc;subst hc;obtain⟨rfl,rfl,hf⟩:=hf;have l:args.map s.ev=args.map sc.ev:=map_congr (λt h=>ht t (by grind[RI.reads]));rcases hf with⟨k,first,caps,hfe,E,S,C⟩|⟨V,hd⟩
   .have R:s.cv f=.fn k first caps:=by grind[RI.reads,WD]
    rw[if_pos (Y E)];refine .inl ?_;obtain⟨⟨fn,e1,e2,e3⟩,N⟩:=C s.m λid q=>by
     refine U id q ⟨_,qaa (S id q)⟩ ?_;rw[DB,←l]at q;rw[←hr.inv.n];exact Es (jx hr _) q
    obtain⟨fs,cs,W,hv1,hv2⟩:=Zw hr ho (HT R) e1 e2 e3;rw[←l]at N;have z:=N G w (fs++args.map a.eval++cs) ((hv1.append (jx hr _)).append hv2) hr.inv;unfold Oper.wp;rw[W,Oper.upon_enter];refine z.mono ?_;rintro e w' ⟨v,d',m',G',rfl,⟨rfl,rfl⟩,hvd,hi',A⟩;refine Z G' w' _ ?_ (by rw[Xaa];exact A) (λ_ _ h=>by cases h);unfold pk;rw[Xaa];exact(hr.step A.le hi').put o.dst hvd
   simp_all
  .rename_i hno;simp only[saa]at hc;obtain⟨j,hj,rfl⟩:=hc;rcases hf with⟨E,p⟩|⟨V,hd,hx,hw⟩
   .rw[if_pos (Y E)];refine .inl ?_;have F:∀t∈j.reads,s.t.getD t .dead=sc.t.getD t .dead:=λt h=>ht t (by grind[RI.reads]);have M:∀y,(∀t∈Xe y,t∈j.reads)->s.ev y=sc.ev y:=λy L=>ya (λt h=>F t (L t h));have B:ea s j=some (d,wr s.m H++x)/\(∀id e,H=some (id,e)->id<s.m.length):=by
     simp only[RI.cls]at hm;rcases p with⟨rfl,hcls,p⟩|⟨rfl,a1,id,e,htg,X,rfl,p,hlt,hsb⟩
     .refine⟨?_,λ_ _ h=>by cases h⟩;simp only[wr];by_cases h2:j.cls=2
      .grind[UB,List.append_cancel_left]
      .have J:j.cls<=1:=by omega
       obtain⟨hxm,hres⟩:=vo (s:=sc) (s':=s) J F (λy id L q=>by
        have hevy:s.ev y=sc.ev y:=M y (λt h=>by
         cases j<;>simp only[I.E5,reduceCtorEq,aab]at L<;>subst L<;>simp[I.reads,h])
        grind[Rl,CL,TB,rN]) p
       simp_all
     .obtain⟨id',e',J,h2,h3,h4⟩:=cH htg hsb p;rw[X]at J;injection J with J;subst J;have T:id<s.m.length:=rN hr (x:=a1) (by grind[VR]);have hee:e=e':=by
       have:=congrArg (λm=>m[id]?) h2
       grind
      subst hee;refine⟨?_,λid2 e2 h=>by simp_all⟩;rw[Xaa];refine h4 s F (U id (by grind[Rl,NN,yP]) h3 T) λy L id' hid'=>?_;have hey:s.ev y=sc.ev y:=M y (by
       cases j<;>simp[I.src]at L
       grind[I.reads])
      grind[Rl,NN,M4,CL,rN,xI]
    exact hr.Up (ax hj hr B.1) λG' w' u hr' A=>Z G' w' _ hr' A B.2
   simp_all
end
def RI.MC(y:RI):Bool:=
 match y with
 |.op _ _ i=>decide (i.cls<=2) || i.UR.isSome
 |.call ..=>true
section
variable {P:Program} {ops:Array Oper} {Q:Exit->Act->World->Prop} {K:St->Prop} {rl:List RI} {q:Nat} {ps:List (List Nat)}
end
def EK:Nat->Nat->Bool
 |0,0=>false
 |0,_+1=>true
 |_+1,0=>true
 |a+1,b+1=>EK a b
theorem sV:∀{a b:Nat},EK a b=true->a≠b
 |0,0,h=>by grind[EK]
 |0,_+1,_=>by omega
 |_+1,0,_=>by omega
 |a+1,b+1,h=>by have:=sV (a:=a) (b:=b) h;omega
def ow(a:Nat):List Nat->Bool
 |[]=>true
 |b::l=>EK a b&&ow a l
def Mo:List Nat->List Nat->Bool
 |[],_=>true
 |a::l,r=>ow a r&&Mo l r
theorem MG{a b:Nat}:∀{l:List Nat},ow a l=true->b∈l->a≠b
 |[],_,h=>by cases h
 |c::l,h,hm=>by
  simp only[ow,Caa]at h;rcases oab.1 hm with rfl|hm
  .grind[sV]
  .exact MG h.2 hm
theorem NG{a:Nat}:∀{l r:List Nat},Mo l r=true->a∈l->a∉r
 |[],_,_,h=>by cases h
 |c::l,r,h,hm=>by
  simp only[Mo,Caa]at h;rcases oab.1 hm with rfl|hm
  .exact λhr=>MG h.1 hr rfl
  .exact NG h.2 hm
def gz(fp:List (List Nat)) (f:List Nat):List Nat->Bool
 |[]=>true
 |i::l=>Mo (fp.getD i []) f&&gz fp f l
theorem WC{fp:List (List Nat)}{f:List Nat}{k:Nat}:∀{l:List Nat},gz fp f l=true->k∈l->Mo (fp.getD k []) f=true
 |[],_,h=>by cases h
 |z::l,h,hm=>by
  simp only[gz,Caa]at h;rcases oab.1 hm with rfl|hm
  .grind
  .exact WC h.2 hm
def Qv(P:Program):List (List Nat)->List (List Nat)->Nat->List RI->(St->Prop)->St->Prop
 |_,_,0,l,K,s=>Wi P l K s
 |_,_,_+1,[],_,_=>False
 |ps,fp,q+1,.op dst g i::l,K,s=>
  gz fp (Rl s (.op dst g i)) (ps.headD [])=true/\
  match gate s g with
  |none=>False
  |some none=>∃d m',Jf s i=true/\ea s i=some (d,m')/\Qv P ps.tail (fp++[Rl s (.op dst g i)]) q l K ({ s with m:=m' }.put dst d)
  |some (some (c,b))=>(c=b->∃d m',Jf s i=true/\ea s i=some (d,m')/\Qv P ps.tail (fp++[Rl s (.op dst g i)]) q l K ({ s with m:=m' }.put dst d))/\(c≠b->Qv P ps.tail (fp++[Rl s (.op dst g i)]) q l K (s.put dst (.v undef)))
 |ps,fp,q+1,.call dst g f args::l,K,s=>
  match s.cv f with
  |.fn k first caps=>
   match gate s g with
   |none=>False
   |some none=>gz fp (Mb s args) (ps.headD [])=true/\∃d,((∀id∈Mb s args,id<s.m.length)/\∀m,(∀id∈Mb s args,m[id]?=s.m[id]?)->CallT P k (first++args.map s.ev++caps) m λd' m'=>d'=d/\m'=m)/\Qv P ps.tail (fp++[Mb s args]) q l K (s.put dst d)
   |some (some (c,b))=>gz fp (Mb s args) (ps.headD [])=true/\(c=b->∃d,((∀id∈Mb s args,id<s.m.length)/\∀m,(∀id∈Mb s args,m[id]?=s.m[id]?)->CallT P k (first++args.map s.ev++caps) m λd' m'=>d'=d/\m'=m)/\Qv P ps.tail (fp++[Mb s args]) q l K (s.put dst d))/\(c≠b->Qv P ps.tail (fp++[Mb s args]) q l K (s.put dst (.v undef)))
  |_=>False
section
variable {P:Program} {K:St->Prop}
end
section
variable {P:Program} {N:Nat} {ops:Array Oper} {Q:Exit->Act->World->Prop} {K:St->Prop} {rl:List RI} {q:Nat} {ps:List (List Nat)}
end
open Go.RowKit (Below)
theorem ZA{G:Gh}{w:World}{m:List Ent}(hi:Inv G w m) {p S Na:Nat}(hm:m[p]?=some (.live S Na [])) (l:List D) (C:Nat) (cs:Array Value) (T:TypeId)
 (hr:lg G w S l cs) (hC:l.length<=C) (hcs:C*S<=cs.size) :
 Inv (G.Cf p (some w.heap.size) (Na+1) l.length (C,0)) (w.alloc (.cells cs T)) (m.set p (.live S (Na+1) l))/\
  Step G w m (G.Cf p (some w.heap.size) (Na+1) l.length (C,0)) (w.alloc (.cells cs T)) (m.set p (.live S (Na+1) l)):=by
 have a:∀k,k<w.heap.size->(w.alloc (.cells cs T)).heap[k]?=w.heap[k]?:=λk hk=>Below.heap_alloc _ _ _ hk;obtain⟨hV,hS,-⟩:=hi.ent p _ hm;refine Wf hi hm rfl rfl _ _ _ _ (.inl (by omega)) rfl rfl rfl (by simp) (λk hk _=>a k hk) (λk h=>by simp_all) ?_;have c:Le G w (G.Cf p (some w.heap.size) (Na+1) l.length (C,0)) (w.alloc (.cells cs T)):=by
  refine⟨λ_ h=>h,λk hk=>a k (hi.F k hk),Haa _,λi _=>?_⟩
  grind[Gh.Cf]
 have b:(w.alloc (.cells cs T)).heap[w.heap.size]?=some (.cells cs T (0,0)):=by
  show(w.heap.push (.cells cs T))[w.heap.size]?=_;simp
 refine⟨by simp[Gh.Cf],by grind[Gh.Cf],by simp[Gh.Cf],by grind[Gh.Cf],.inr ⟨w.heap.size,cs,T,by simp[Gh.Cf],λh=>?_,b,by grind[Gh.Cf],by simpa [Gh.Cf] using Rj b (hr.mono c)⟩⟩;have:=hi.F _ h;omega
def Am(s:St) (p:Nat):I->Option (D×Ent)
 |.alloc S z=>match s.m[p]? with
  |some (.live S' Na [])=>if S'=S then some (.ref p (Na+1) 0 0,.live S (Na+1) [z])else none
  |_=>none
 |.box S x=>match s.m[p]? with
  |some (.live S' Na [])=>if S'=S/\(s.ev x).ok=true/\(s.ev x).cells.length=S then some (.ref p (Na+1) 0 0,.live S (Na+1) [s.ev x])else none
  |_=>none
 |.bslice S n z ps=>match s.m[p]? with
  |some (.live S' Na [])=>if S'=S then(wc s S ps (raa n z)).map λl=>(.own p (Na+1),.live S (Na+1) l)else none
  |_=>none
 |_=>none
section
variable {P:Program} {G:Gh} {w:World} {a:Act} {s:St} {d:D} {e:Ent} {p:Nat}
theorem QK{w':World}{C Na b N:Nat}(hp:p<G.n):VRel (G.Cf p (some b) (Na+1) N (C,0)) w' (.ref p (Na+1) 0 0) (.pointer (some ⟨b,0,none⟩)):=by
 simp only[VRel];exact⟨_,rfl,by grind[Gh.Cf],by simp[Gh.Cf],λ_=>⟨b,by simp[Gh.Cf],by simp[Gh.Cf]⟩⟩
theorem EV{w':World}{C Na b N:Nat}(hp:p<G.n):VRel (G.Cf p (some b) (Na+1) N (C,0)) w' (.own p (Na+1)) (.slice (some ⟨b,0,none⟩) N C):=by
 simp only[VRel];exact⟨_,_,_,rfl,by grind[Gh.Cf],by simp[Gh.Cf],λ_=>⟨by simp[Gh.Cf],by simp[Gh.Cf],by simp[Gh.Cf]⟩⟩
theorem OY(hr:Rel G w a s) {t:TypeId}{z:Value}{o:Oper}(ho:o.op=.alloc t) (f:zeroOf P t=some z) (he:Am s p (.alloc z.cells.size (leaf z))=some (d,e)) :
 Good G w s.m ((execOp a.eval o).run P w) d (s.m.set p e):=by
 simp only[Am]at he;split at he
 .rename_i S' Na hm;split at he
  .rename_i hS;subst hS;injection he with he;injection he with c h2;subst c;subst h2;obtain⟨hz1,b,hz3,-⟩:=Xk f w;obtain⟨g1,g2⟩:=ZA hr.inv hm [leaf z] 1 z.cells t (Fx (Iu z b) rfl (RH b)) (by simp) (by simp);refine⟨_,_,_,?_,.inl ⟨_,rfl,QK (C:=1) (N:=1) (by rw[hr.inv.n];grind)⟩,g1,g2⟩
   simp_all[execOp,Instr.alloc,newVar,newRow]
  simp_all
 simp_all
theorem f_box(hr:Rel G w a s) {t:TypeId}{x:Operand}{S:Nat}{o:Oper}(ho:o.op=.box t x) (he:Am s p (.box S x)=some (d,e)) :
 Good G w s.m ((execOp a.eval o).run P w) d (s.m.set p e):=by
 simp only[Am]at he;split at he
 .rename_i S' Na hm;split at he
  .rename_i hc;obtain⟨rfl,f,hlen⟩:=hc;injection he with he;injection he with b h2;subst b;subst h2;have hx:=hr.ev x;obtain⟨hv,b⟩:=hx.cells f;have g:(a.eval x).cells.size=S':=by rw[←rac,hv.length];omega
   obtain⟨g1,g2⟩:=ZA hr.inv hm [s.ev x] 1 (a.eval x).cells t (Fx hx g (λj c hj=>b c (by grind))) (by simp) (by omega);refine⟨_,_,_,?_,.inl ⟨_,rfl,QK (C:=1) (N:=1) (by rw[hr.inv.n];grind)⟩,g1,g2⟩
   simp_all[execOp,Instr.box,newVar,newRow]
  simp_all
 simp_all
theorem uU(hr:Rel G w a s) {t e':TypeId}{n:Nat}{ps:Array (Nat×Operand)}{z:Value}{o:Oper}(ho:o.op=.buildSlice t n ps)
 (ht:P.underlying t=some (.slice e')) (y:zeroOf P e'=some z) (hsmall:n*z.cells.size<=2 ^ 24) (he:Am s p (.bslice z.cells.size n (leaf z) ps.toList)=some (d,e)) :
 Good G w s.m ((execOp a.eval o).run P w) d (s.m.set p e):=by
 simp only[Am]at he;split at he
 .rename_i S' Na hm;split at he
  .rename_i hS;subst hS;simp only[saa,Paa]at he;obtain⟨l,hb,rfl,rfl⟩:=he;obtain⟨u,v,hz3,i,hi,c,hzz⟩:=Xk y w;obtain⟨cells,hf,g,hcs,b⟩:=CI hr hb (Yq v n) (by simp);simp only[List.length_replicate]at b;obtain⟨g1,g2⟩:=ZA hr.inv hm l n cells e' g (by omega) (by simp_all);refine⟨_,_,_,?_,.inl ⟨_,rfl,EV (N:=l.length) (C:=n) (by rw[hr.inv.n];grind)⟩,g1,g2⟩;unfold execOp;simp only[ho];have q:¬(2 ^ 24<n*i.size):=by simp_all
   by_cases x:n*i.size=0
   .have j:n=0:=by
     grind[Nat.mul_eq_zero]
    subst j;rw[c.symm]at hf;rw[Nat.zero_mul,show Pad 0 = #[]from rfl,Array.map_empty]at hf;have h:Instr.fill (λk=>some (k*i.size,i.size)) #[] (ps.toList.map λp=>(p.1,a.eval p.2))=some cells:=hf;have r:∀f:Nat->Value,Array.map f (Pad 0) = #[]:=λf=>by simp
    simp[Instr.buildSlice,run_underlying ht,Jd hi,r,h,newRow,b]
   .rw[c.symm]at hf;simp[Instr.buildSlice,run_underlying ht,Jd hi,q,x,u,hf,newRow,b,c.symm]
  simp_all
 simp_all
theorem HN{ops:Array Oper}{o:Oper}{i:I}(hc:Mp P ops o o.op=some i) (hr:Rel G w a s) (he:Am s p i=some (d,e)):Good G w s.m ((execOp a.eval o).run P w) d (s.m.set p e):=by
 cases i with
 |alloc S z=>
  obtain⟨t,b,ho,f,rfl,rfl⟩:∃t b,o.op=.alloc t/\zeroOf P t=some b/\b.cells.size=S/\leaf b=z:=by
   unfold Mp at hc;split at hc
   .grind[Mx,saa]
   .unfold MB at hc
    repeat' split at hc
    all_goals first
     |cases hc
     |(
      simp only[saa]at hc;obtain⟨b,f,h⟩:=hc
      first|cases h|skip)
    simp_all
  grind[OY]
 |box S x=>
  obtain⟨t,ho⟩:∃t,o.op=.box t x:=by
   unfold Mp at hc;split at hc
   .grind[Mx,saa]
   .unfold MB at hc
    grind[saa]
  grind[f_box]
 |bslice S n z ps=>
  obtain⟨t,e',c,b,ho,ht,f,hsmall,rfl,rfl,rfl⟩:∃t e' c b,o.op=.buildSlice t n c/\P.underlying t=some (.slice e')/\zeroOf P e'=some b/\n*b.cells.size<=2 ^ 24/\b.cells.size=S/\leaf b=z/\c.toList=ps:=by
   unfold Mp at hc;split at hc
   .grind[Mx,saa]
   .unfold MB at hc
    repeat' split at hc
    all_goals first
     |(cases hc;exact⟨_,_,_,_,by omega,by omega,by omega,by omega,rfl,rfl,rfl⟩)
     |cases hc
     |(
      simp only[saa]at hc;obtain⟨b,f,h⟩:=hc;cases h)
  grind[uU]
 |_=>simp[Am]at he
end
theorem eK{s s':St}{p:Nat}{i:I}(ht:∀t∈i.reads,s'.t.getD t .dead=s.t.getD t .dead) (hm:s'.m[p]?=s.m[p]?):Am s' p i=Am s p i:=by
 cases i with
 |alloc S z=>grind[Am]
 |box S x=>
  grind[I.reads,Am,ya]
 |bslice S n z ps=>
  grind[I.reads,Am,mq]
 |_=>rfl
theorem dK{s:St}{p:Nat}{i:I}{d:D}{e:Ent}(h:Am s p i=some (d,e)):p<s.m.length:=by
 rcases Wab p s.m.length with a|a
 .omega
 .have hn:=List.getElem?_eq_none a;cases i<;>simp[Am,hn]at h
def Yw:Option Nat->St->RI->List Nat
 |some p,_,.op ..=>[p]
 |some _,s,.call _ _ _ args=>Mb s args
 |none,s,r=>Rl s r
def Zl(P:Program) (o:Option Nat) (r:RI) (s:St) (d:D) (x:List Ent) (w:Option (Nat×Ent)):Prop:=
 match o with
 |none=>iu P r s d x w
 |some p=>(∃dst i e,r=.op dst none i/\x=[]/\w=some (p,e)/\Am s p i=some (d,e))\/
  (∃dst f args k first caps e,r=.call dst none f args/\x=[]/\w=some (p,e)/\s.cv f=.fn k first caps/\p∈Mb s args/\(∀id∈Mb s args,id<s.m.length)/\
   ∀m,(∀id∈Mb s args,m[id]?=s.m[id]?)->CallT P k (first++args.map s.ev++caps) m λd' m'=>d'=d/\m'=m.set p e)
def pO(pl:List (Option Nat)) (i:Nat):Option Nat:=pl.getD i none
theorem cP{pl:List (Option Nat)}{k:Nat}:(pl.drop k).headD none=pO pl k:=by
 simp_all[pO]
theorem tail_drop{pl:List (Option Nat)}{k:Nat}:(pl.drop k).tail=pl.drop (k+1):=by simp
theorem o6{xx:Nat->List Ent}{L:Nat->Bool}(m:List Ent):∀n,m.length<=(mS xx L m n).length
 |0=>Haa _
 |n+1=>by
  have:=o6 (xx:=xx) (L:=L) m n
  grind[mS]
def gw(P:Program):List (Option Nat)->List RI->St->Os->List (List Nat)->St->Prop
 |_,[],s,os,rs,s'=>os=[]/\rs=[]/\s'=s
 |pl,r::l,s,os,rs,s'=>∃d x w os' a,os=(d,x,w)::os'/\rs=Yw (pl.headD none) s r::a/\Zl P (pl.headD none) r s d x w/\gw P pl.tail l (pk s r d x w) os' a s'
section
variable {P:Program}
theorem gw.length:∀{l:List RI}{pl:List (Option Nat)}{s s':St}{os:Os}{rs:List (List Nat)},gw P pl l s os rs s'->os.length=l.length
 |[],pl,s,s',os,rs,h=>by simp[h.1]
 |r::l,pl,s,s',os,rs,h=>by
  obtain⟨d,x,w,os',rs',rfl,rfl,_,h⟩:=h;simp[gw.length h]
theorem Zl.lt{o:Option Nat}{r:RI}{s:St}{d:D}{x:List Ent}{w:Option (Nat×Ent)}(h:Zl P o r s d x w) {id:Nat}{e:Ent}(hw:w=some (id,e)):id<s.m.length/\x=[]/\id∈Yw o s r:=by
 cases o with
 |none=>exact iu.lt h hw
 |some p=>
  rcases h with⟨dst,i,e',rfl,hx,a,hf⟩|⟨dst,f,args,k,first,caps,e',rfl,hx,a,hf,c,hl,_⟩
  .rw[a]at hw;injection hw with hw;injection hw with b h2;subst b;exact⟨dK hf,hx,by simp[Yw]⟩
  .rw[a]at hw;injection hw with hw;injection hw with b h2;subst b;exact⟨hl _ c,hx,c⟩
theorem gw.get{pl:List (Option Nat)}{rl:List RI}{os:Os}{s0:St}:∀{l:List RI}{k:Nat}{s':St}{os':Os}{rs:List (List Nat)},l=(rl.drop k).take l.length->os'=(os.drop k).take os'.length->
 (∀j,j<k->∀id e,EP os j=some (id,e)->id<(mS (iG os) (λ_=>true) s0.m k).length)->gw P (pl.drop k) l (Jm rl os s0 (λ_=>true) k) os' rs s'->
 (∀i,i<l.length->Zl P (pO pl (k+i)) (rl.getD (k+i) oP) (Jm rl os s0 (λ_=>true) (k+i)) (c8 os (k+i)) (iG os (k+i)) (EP os (k+i))/\rs.getD i []=Yw (pO pl (k+i)) (Jm rl os s0 (λ_=>true) (k+i)) (rl.getD (k+i) oP))/\s'=Jm rl os s0 (λ_=>true) (k+l.length)
 |[],k,s',os',rs,_,_,_,h=>⟨λi hi=>by grind,by simpa using h.2.2⟩
 |r::l,k,s',os',rs,q,h2,hv,h=>by
  obtain⟨d,x,w,a,rs',rfl,rfl,n,h⟩:=h;rw[cP]at n;rw[tail_drop]at h;have hr:rl[k]?=some r:=by
   have:=congrArg (λl=>l[0]?) q
   grind
  have ho:os[k]?=some (d,x,w):=by
   have:=congrArg (λl=>l[0]?) h2
   grind
  have g:rl.getD k oP=r:=by simp_all
  have ho':os.getD k os0=(d,x,w):=by simp_all
  have hd:c8 os k=d:=by grind[c8]
  have hx:iG os k=x:=by grind[iG]
  have hw:EP os k=w:=by grind[EP]
  have hds:wQ rl k=r.dst:=by grind[wQ]
  have c:mS (iG os) (λ_=>true) s0.m (k+1)=mS (iG os) (λ_=>true) s0.m k++x:=by grind[mS]
  have b:pk (Jm rl os s0 (λ_=>true) k) r d x w=Jm rl os s0 (λ_=>true) (k+1):=by
   rw[HD];simp only[Jm,tS,if_true,St.mk.injEq];refine⟨by grind,?_⟩;rw[c];simp only[sS,if_true,hw];rw[BN _ _ _ λj hj _ id e he=>hv j hj id e he]
   cases w with
   |none=>rfl
   |some p=>
    obtain⟨id,e⟩:=p;obtain⟨_,hx0,_⟩:=n.lt rfl
    grind[wr]
  have o:∀j,j<k+1->∀id e,EP os j=some (id,e)->id<(mS (iG os) (λ_=>true) s0.m (k+1)).length:=by
   intro j hj id e he;rw[c,Taa];by_cases f:j=k
   .subst f;rw[hw]at he;have:=(n.lt he).1
    grind[Jm,rn]
   .have:=hv j (by omega) id e he;omega
  rw[b]at h;have t1:l=(rl.drop (k+1)).take l.length:=by
   grind[mab]
  have t2:a=(os.drop (k+1)).take a.length:=by
   grind[mab]
  obtain⟨g1,g2⟩:=gw.get t1 t2 o h;refine⟨λi hi=>?_,by grind⟩
  cases i with
  |zero=>simp only[Nat.add_zero,g,hd,hx,hw];grind[cP]
  |succ i=>
   have:=g1 i (by grind)
   grind
theorem TY{ops:Array Oper}{o:Oper}{r:RI}(hc:Cn P ops o=some r) {sc s:St}{d:D}{x:List Ent}{O:Option (Nat×Ent)}{N:Option Nat}(hf:Zl P N r sc d x O) (ht:∀t∈r.reads,s.t.getD t .dead=sc.t.getD t .dead)
 (hm:N=none->r.cls=2->s.m.length=sc.m.length) (J:∀(id:Nat),id∈Yw N sc r->(∃e,sc.m[id]?=some e)->id<s.m.length->s.m[id]?=sc.m[id]?) (B:∀p,N=some p->p<s.m.length)
 {G:Gh} {w:World} {a:Act} (hr:Rel G w a s) {i:Nat} (hi:ops[i]?=some o) {Q:Exit->Act->World->Prop} {K:Act->World->Prop}
 (S:∀G' w' a',Rel G' w' a' (pk s r d x O)->Step G w s.m G' w' (wr s.m O++x)->(∀id e,O=some (id,e)->id<s.m.length)->K a' w'):wpOp P ops Q i K a w:=by
 cases N with
 |none=>exact SY hc hf ht (hm rfl) J hr hi S
 |some p=>
  rcases hf with⟨dst,j,e,rfl,rfl,rfl,E⟩|⟨dst,f,args,k,first,caps,e,rfl,rfl,rfl,hfe,hpt,I,C⟩
  rotate_left
  .have A:=av hc;have hp:=B p rfl;unfold wpOp;simp only[hi];unfold Cn at hc;split at hc
   .grind
   .rename_i g T;split at hc
    .rename_i f' args' ho;injection hc with hc;injection hc with h1 h2 R h4;subst h2;subst R;subst h4;obtain⟨b,y⟩:=Bm hr T;rw[if_pos (b rfl o rfl)];refine .inl ?_;have H:s.cv f'=.fn k first caps:=by grind[RI.reads,WD]
     have c:args'.map s.ev=args'.map sc.ev:=map_congr (λt h=>ht t (by grind[RI.reads]));obtain⟨⟨fn,Y,Z,e3⟩,F⟩:=C s.m λid z=>by
      refine J id z ⟨_,qaa (I id z)⟩ ?_;rw[DB,←c]at z;rw[←hr.inv.n];exact Es (jx hr _) z
     obtain⟨fs,cs,L,V,W⟩:=Zw hr ho (HT H) Y Z e3;rw[←c]at F;have l:=F G w (fs++args'.map a.eval++cs) ((V.append (jx hr _)).append W) hr.inv;unfold Oper.wp;rw[L,Oper.upon_enter];refine l.mono ?_;rintro e0 w' ⟨v,d',m',G',rfl,⟨rfl,rfl⟩,X,U,M⟩;refine S G' w' _ ?_ (by grind[wr]) (λid e' h=>by simp_all);unfold pk;rw[Xaa];rw[A];exact(hr.step M.le U).put o.dst X
    simp_all
  have A:=av hc;have hp:=B p rfl;have hat:=dK E;have q:Am s p j=some (d,e):=by
   grind[RI.reads,Yw,eK]
  unfold wpOp;simp only[hi];unfold Cn at hc;split at hc
  .grind
  .rename_i g T;split at hc
   .simp_all
   .rename_i hno;simp only[saa]at hc;obtain⟨j',hj,h⟩:=hc;injection h with h1 h2 R;subst h2;subst R;obtain⟨b,y⟩:=Bm hr T;rw[if_pos (b rfl o rfl)];refine .inl ?_;exact hr.Up (HN hj hr q) λG' w' u hr' M=>S G' w' _ (by grind[pk,wr]) (by grind[wr]) (λid e' h=>by simp_all)
end
def wB(o:Option Nat):RI->Bool
 |.op _ _ i=>o.isSome || i.UR.isSome
 |.call ..=>o.isSome
def lB(o:Option Nat):RI->Bool
 |.op _ _ i=>o.isSome || i.UR.isSome || i.E5.isSome
 |.call ..=>true
def qu(o a:Option Nat) (x y:RI):Bool:=(wB o x&&lB a y) || (wB a y&&lB o x)
def Rt(o a:Option Nat) (x y:RI):Bool:=
 (
  match x.dst with
  |some t=>y.reads.contains t || y.dst==some t
  |none=>false) ||
 (
  match y.dst with
  |some t=>x.reads.contains t
  |none=>false) ||
 (o.isNone&&a.isNone&&x.cls==2&&y.cls==2)
def Et(bs:List (List Nat)) (rl:List RI) (q:Nat) (ps:List (List Nat)) (pl:List (Option Nat)):Bool:=
 let ms:=Mv bs
 (zaa q).all λj=>match rl[j]? with
  |none=>false
  |some y=>((pO pl j).isSome || y.MC)&&(zaa j).all λi=>match rl[i]? with
   |none=>false
   |some x=>(ms.getD j 0).testBit i || (!Rt (pO pl i) (pO pl j) x y&&(!qu (pO pl i) (pO pl j) x y || (ps.getD j []).contains i))
structure DrawFactsO (bs:List (List Nat)) (rl:List RI) (q:Nat) (ps:List (List Nat)) (pl:List (Option Nat)):Prop extends TailFacts bs rl q where
 MC:∀(j:Nat) y,j<q->rl[j]?=some y->((pO pl j).isSome || y.MC)=true
 apart:∀(i j:Nat) x y,i<j->j<q->rl[i]?=some x->rl[j]?=some y->Rt (pO pl i) (pO pl j) x y=true->((Mv bs).getD j 0).testBit i=true
 pairs:∀(i j:Nat) x y,i<j->j<q->rl[i]?=some x->rl[j]?=some y->qu (pO pl i) (pO pl j) x y=true->((Mv bs).getD j 0).testBit i=true\/i∈ps.getD j []
theorem pG{bs:List (List Nat)}{rl:List RI}{q:Nat}{ps:List (List Nat)}{pl:List (Option Nat)}(ht:TailFacts bs rl q) (h:Et bs rl q ps pl=true):DrawFactsO bs rl q ps pl:=by
 unfold Et at h;simp only[Yaa,Kac]at h;refine⟨ht,?_,?_,?_⟩
 all_goals grind
section
variable {P:Program} {ops:Array Oper} {Q:Exit->Act->World->Prop} {K:St->Prop} {rl:List RI} {q:Nat} {ps:List (List Nat)} {pl:List (Option Nat)}
theorem DH{o a:Option Nat}{s:St}{x y:RI}{id:Nat}(hx:id∈Yw o s x) (hy:wB a y=true):qu o a x y=true:=by
 have h:lB o x=true:=by
  cases o with
  |some p=>cases x<;>simp[lB]
  |none=>
   cases x with
   |call=>rfl
   |op d g i=>
    grind[Yw,Rl,lB]
 grind[qu]
theorem iM{o a:Option Nat}{x y:RI}:qu o a x y=qu a o y x:=by grind[qu]
theorem Zl.wB{o:Option Nat}{r:RI}{s:St}{d:D}{x:List Ent}{p:Nat×Ent}(h:Zl P o r s d x (some p)):Go.Tm.wB o r=true:=by
 cases o with
 |some p=>cases r<;>rfl
 |none=>
  cases r with
  |call=>obtain⟨_,h,_⟩:=h;cases h
  |op d g i=>
   rcases h with⟨_,⟨h,_⟩|⟨_,a,_,_,h,_⟩⟩|⟨_,_,_,h⟩
   all_goals grind[Go.Tm.wB]
theorem nM(hc:mg P ops ops.toList=some rl) (hf:DrawFactsO (Bb ops) rl q ps pl) {os:Os}{s0:St}
 (I:∀i,i<q->Zl P (pO pl i) (rl.getD i oP) (Jm rl os s0 (λ_=>true) i) (c8 os i) (iG os i) (EP os i))
 (hpl:∀i p,pO pl i=some p->p<s0.m.length)
 (B:∀i,i<q->iG os i≠[]->(rl.getD i oP).cls=2/\pO pl i=none)
 (hap:∀i j,i<j->j<q->i∈ps.getD j []->∀id,id∈Yw (pO pl i) (Jm rl os s0 (λ_=>true) i) (rl.getD i oP)->id∉Yw (pO pl j) (Jm rl os s0 (λ_=>true) j) (rl.getD j oP))
 (hT:Wi P (rl.drop q) K (Jm rl os s0 (λ_=>true) q)) :
 ∀(fuel:Nat) (listed:Array Bool) (G:Gh) (w:World) (a:Act),((zaa ops.size).filter λj=>!vd listed j).length<=fuel->listed.size=ops.size->Closed (Bb ops) (vd listed)->
  (∀j,q<=j->vd listed j=false)->Rel G w a (Jm rl os s0 (vd listed) q)->(∀j,j<q->vd listed j=true->∀id e,EP os j=some (id,e)->id<(mS (iG os) (vd listed) s0.m q).length)->
  (∀s' G' w' a',K s'->Rel G' w' a' s'->Step G w (Jm rl os s0 (vd listed) q).m G' w' s'.m->Q .normal a' w')->wpAny P .any ops Q fuel listed a w:=by
 obtain⟨Y,W⟩:=Bt hc;simp only[rac]at Y;have hq:=hf.hq;have d:∀{L L':Nat->Bool},(∀j,j<q->L j=L' j)->Jm rl os s0 L q=Jm rl os s0 L' q:=by
  intro L L' h;have hs:∀(m:List Ent) n,n<=q->sS (EP os) L m n=sS (EP os) L' m n:=by
   intro m n
   induction n with
   |zero=>intro _;rfl
   |succ n ih=>grind[sS]
  simp only[Jm,St.mk.injEq];exact⟨GF _ _ λj hj=>h j hj,by rw[ME _ _ λj hj=>h j hj,hs _ _ (Haa _)]⟩
 intro fuel
 induction fuel with
 |zero=>
  intro listed G w a o F H T J hV hQ;have V:∀i,i<ops.size->vd listed i=true:=by
   simp_all
  have hqn:q=ops.size:=by
   rcases Wab q ops.size with h|h
   all_goals grind
  have E:Jm rl os s0 (vd listed) q=Jm rl os s0 (λ_=>true) q:=d λj hj=>V j (by omega);refine qx hc hf.toTailFacts 0 q 0 listed _ G w a (by omega) (Haa _) (Haa _) (by omega) F (λi=>?_) hT (by simp_all) (by grind)
  grind
 |succ fuel ih=>
  intro listed G w a o F H T J hV hQ;by_cases b:∀j,j<q->vd listed j=true
  .have E:Jm rl os s0 (vd listed) q=Jm rl os s0 (λ_=>true) q:=d λj hj=>b j hj;have g:∀i,vd listed i=decide (i<q):=λi=>by
    grind
   have hcnt:=count_tail q ops.size;simp only[g]at o;exact qx hc hf.toTailFacts (ops.size-q) q (fuel+1) listed _ G w a rfl (by omega) (Haa _) (by omega) F g hT (by simp_all) (by grind)
  .refine⟨λhno=>(b λj hj=>Jw hf.toTailFacts F hno j (by omega)).elim,λi hi=>?_⟩;obtain⟨h1,h2,h3,h4,U⟩:=Jt hf.toTailFacts F H hi;have c:i<q:=by
    rcases Wab i q with h|h
    .exact h
    .exact(b λj hj=>h3 j (by omega) (hf.tail j i (by omega) h (by omega))).elim
   have z:∀j,j<q->rl[j]?=some (rl.getD j oP):=λj hj=>getD_some (by omega) _;obtain⟨r,hr,hco⟩:=W i ops[i] (by simp);have hrr:rl.getD i oP=r:=by grind
   have early:∀j x,j<i->rl[j]?=some x->Rt (pO pl j) (pO pl i) x r=true->vd listed j=true:=λj x hj hx u=>h3 j (by omega) (hf.apart j i x r hj c hx hr u);have late:∀j y,i<j->j<q->rl[j]?=some y->Rt (pO pl i) (pO pl j) r y=true->vd listed j=false:=by
    intro j y hj R hy u;rcases hb:vd listed j with _|_
    .rfl
    .have:=Zr H hb (hf.apart i j r y hj R hr hy u)
     grind
   have hF:=I i c;rw[hrr]at hF;have v:∀(k l:Nat) (x y:RI),(x.cls=2/\pO pl k=none)->(y.cls=2/\pO pl l=none)->Rt (pO pl k) (pO pl l) x y=true:=λk l x y hx hy=>by grind[Rt]
   have ordered:∀j,j<q->∀id e,EP os j=some (id,e)->id∈Yw (pO pl i) (Jm rl os s0 (λ_=>true) i) r->(vd listed j=true↔j<i):=by
    intro j hj id e hw D;have M:=I j hj;have S:=M.lt hw;have E:Go.Tm.wB (pO pl j) (rl.getD j oP)=true:=by rw[hw]at M;exact M.wB
    rcases Nat.lt_trichotomy j i with A|A|A
    .refine⟨λ_=>A,λ_=>?_⟩;have N:qu (pO pl j) (pO pl i) (rl.getD j oP) r=true:=by grind[iM,DH]
     rcases hf.pairs j i _ r A c (z j hj) hr N with h|h
     all_goals grind
    .grind
    .refine⟨λg=>?_,λh=>by omega⟩;have N:qu (pO pl i) (pO pl j) r (rl.getD j oP)=true:=DH D E;rcases hf.pairs i j r _ A hj hr (z j hj) N with h|h
     all_goals grind[Zr]
   refine TY hco hF (s:=Jm rl os s0 (vd listed) q) ?_ ?_ ?_ ?_ J (Lab h1) ?_
   .intro y hy;refine lL s0.t (by omega) λj hj hd=>?_;have hxj:=z j hj
    grind[wQ,Rt]
   .intro hpo hcls;simp only[Jm,rn];refine congrArg List.length (wK s0.m (Nat.le_of_lt c) λj hj hx=>?_)
    grind
   .rintro id D ⟨e,he⟩ O;obtain⟨k,hk,Z⟩:=kB (xx:=iG os) (L:=vd listed) s0.m q λi1 j1 X hj hx1 hx2 hL1=>
     Zr H hL1 (hf.apart i1 j1 _ _ X hj (z i1 (by omega)) (z j1 hj) (v _ _ _ _ (B i1 (by omega) hx1) (B j1 hj hx2)))
    simp only[Jm,rn]at he O⊢;have S:id<(mS (iG os) (λ_=>true) s0.m i).length:=by
     grind[rn]
    rw[AF _ _ _ O,AF _ _ _ S,RM (by omega) λj hj e hw=>ordered j hj id e hw D];have hbase:(mS (iG os) (vd listed) s0.m q)[id]?=(mS (iG os) (λ_=>true) s0.m i)[id]?:=by
     rw[Z]at O⊢;rcases Pae i k with h|h
     .obtain⟨rr,hrr'⟩:=kD (xx:=iG os) s0.m h
      grind
     .obtain⟨rr,hrr'⟩:=kD (xx:=iG os) s0.m h
      grind
    grind
   .grind[Jm,rn,o6]
   .intro G' w' a' C hs' S;have f:mS (iG os) (vd (listed.setIfInBounds i true)) s0.m q=mS (iG os) (vd listed) s0.m q++iG os i:=by
     refine QO s0.m h2 U c ?_
     grind
    have E:pk (Jm rl os s0 (vd listed) q) r (c8 os i) (iG os i) (EP os i)=Jm rl os s0 (vd (listed.setIfInBounds i true)) q:=by
     rw[HD];simp only[Jm,St.mk.injEq];constructor
     .rw[uP s0.t h2 U c ?_]
      all_goals grind[wQ,Rt]
     .rw[f,C2 _ h2 U c ?_]
      .rw[BN _ _ _ λj hj g id e he=>hV j hj g id e he]
       cases hw:EP os i with
       |none=>rfl
       |some p=>
        obtain⟨id,e⟩:=p;have:=(hF.lt hw).2.1
        grind[wr]
      .intro j X R g id e e' hwi hwj;have:=(ordered j R id e' hwj (hF.lt hwi).2.2).1 g;omega
    rw[E]at C;refine ih (listed.setIfInBounds i true) G' w' a' ?_ (by grind) h4 ?_ C ?_ ?_
    .have:=filter_lt h2 U (l:=zaa ops.size) (by grind);omega
    .grind
    .intro j hj g id e he;rw[f,Taa];rw[U,yad,beq_iff_eq]at g;rcases g with g|rfl
     all_goals grind[Jm,rn]
    .intro s'' G'' w'' a'' k1 k2 k3;refine hQ s'' G'' w'' a'' k1 k2 (hs'.trans ?_)
     grind[HD]
end
def Pm(P:Program):List (Option Nat)->List (List Nat)->List (List Nat)->Nat->List RI->(St->Prop)->St->Prop
 |_,_,_,0,l,K,s=>Wi P l K s
 |_,_,_,_+1,[],_,_=>False
 |pl,ps,fp,q+1,.op dst g i::l,K,s=>
  match pl.headD none with
  |some p=>gz fp [p] (ps.headD [])=true/\g=none/\∃d e,Am s p i=some (d,e)/\Pm P pl.tail ps.tail (fp++[[p]]) q l K ({ s with m:=s.m.set p e }.put dst d)
  |none=>
   gz fp (Rl s (.op dst g i)) (ps.headD [])=true/\
   match gate s g with
   |none=>False
   |some none=>∃d m',Jf s i=true/\ea s i=some (d,m')/\Pm P pl.tail ps.tail (fp++[Rl s (.op dst g i)]) q l K ({ s with m:=m' }.put dst d)
   |some (some (c,b))=>(c=b->∃d m',Jf s i=true/\ea s i=some (d,m')/\Pm P pl.tail ps.tail (fp++[Rl s (.op dst g i)]) q l K ({ s with m:=m' }.put dst d))/\(c≠b->Pm P pl.tail ps.tail (fp++[Rl s (.op dst g i)]) q l K (s.put dst (.v undef)))
 |pl,ps,fp,q+1,.call dst g f args::l,K,s=>
  match pl.headD none,s.cv f with
  |some p,.fn k first caps=>g=none/\p∈Mb s args/\gz fp (Mb s args) (ps.headD [])=true/\∃d e,((∀id∈Mb s args,id<s.m.length)/\∀m,(∀id∈Mb s args,m[id]?=s.m[id]?)->CallT P k (first++args.map s.ev++caps) m λd' m'=>d'=d/\m'=m.set p e)/\Pm P pl.tail ps.tail (fp++[Mb s args]) q l K ({ s with m:=s.m.set p e }.put dst d)
  |none,.fn k first caps=>
   match gate s g with
   |none=>False
   |some none=>gz fp (Mb s args) (ps.headD [])=true/\∃d,((∀id∈Mb s args,id<s.m.length)/\∀m,(∀id∈Mb s args,m[id]?=s.m[id]?)->CallT P k (first++args.map s.ev++caps) m λd' m'=>d'=d/\m'=m)/\Pm P pl.tail ps.tail (fp++[Mb s args]) q l K (s.put dst d)
   |some (some (c,b))=>gz fp (Mb s args) (ps.headD [])=true/\(c=b->∃d,((∀id∈Mb s args,id<s.m.length)/\∀m,(∀id∈Mb s args,m[id]?=s.m[id]?)->CallT P k (first++args.map s.ev++caps) m λd' m'=>d'=d/\m'=m)/\Pm P pl.tail ps.tail (fp++[Mb s args]) q l K (s.put dst d))/\(c≠b->Pm P pl.tail ps.tail (fp++[Mb s args]) q l K (s.put dst (.v undef)))
  |none,_=>gz fp (Mb s args) (ps.headD [])=true/\(∃c b,gate s g=some (some (c,b))/\c≠b)/\Pm P pl.tail ps.tail (fp++[Mb s args]) q l K (s.put dst (.v undef))
  |_,_=>False
section
variable {P:Program} {K:St->Prop}
theorem dP{pl:List (Option Nat)}{j:Nat}:pO pl.tail j=pO pl (j+1):=by grind[pO]
theorem wz:∀{q:Nat}{l:List RI}{s:St}{pl:List (Option Nat)}{ps:List (List Nat)}{fp:List (List Nat)},Pm P pl ps fp q l K s->(∀(j:Nat) y,j<q->l[j]?=some y->((pO pl j).isSome || y.MC)=true)->
 ∃os rs s1,gw P pl (l.take q) s os rs s1/\Wi P (l.drop q) K s1/\(∀j,j<q->∀i∈ps.getD j [],i<fp.length+j->Mo ((fp++rs).getD i []) (rs.getD j [])=true)
 |0,l,s,pl,ps,fp,h,_=>⟨[],[],s,by simp[gw],by simpa [Pm] using h,λj hj=>by omega⟩
 |q+1,[],s,pl,ps,fp,h,_=>by simp[Pm]at h
 |q+1,.op dst g i::l,s,pl,ps,fp,h,hc=>by
  have A:∀(j:Nat) y,j<q->l[j]?=some y->((pO pl.tail j).isSome || y.MC)=true:=λj y hj O=>by grind[dP]
  simp only[Pm]at h;have join:∀{s2:St} {d x w},gz fp (Yw (pl.headD none) s (.op dst g i)) (ps.headD [])=true->Zl P (pl.headD none) (.op dst g i) s d x w->pk s (.op dst g i) d x w=s2->Pm P pl.tail ps.tail (fp++[Yw (pl.headD none) s (.op dst g i)]) q l K s2->
   ∃os rs s1,gw P pl ((RI.op dst g i::l).take (q+1)) s os rs s1/\Wi P ((RI.op dst g i::l).drop (q+1)) K s1/\(∀j,j<q+1->∀i∈ps.getD j [],i<fp.length+j->Mo ((fp++rs).getD i []) (rs.getD j [])=true):=by
   intro s2 d x w n N hs r;obtain⟨os,rs,s1,H,h2,I⟩:=wz r A;refine⟨(d,x,w)::os,Yw (pl.headD none) s (.op dst g i)::rs,s1,by simp only[Aab,gw];grind,by simp_all,λj hj k hk G=>?_⟩
   cases j with
   |zero=>
    have E:k∈ps.headD []:=by cases ps with|nil=>simp at hk|cons a b=>simp_all
    have F:k<fp.length:=by omega
    have B:(fp++Yw (pl.headD none) s (.op dst g i)::rs).getD k []=fp.getD k []:=by
     grind
    grind[WC]
   |succ j=>
    grind[nab]
  split at h
  .rename_i p z;obtain⟨n,rfl,d,e,hf,r⟩:=h;exact join (d:=d) (x:=[]) (w:=some (p,e)) (by rw[z];exact n) (by rw[z];exact .inl ⟨dst,i,e,rfl,rfl,rfl,hf⟩) (show pk s (.op dst none i) d [] (some (p,e))=({ s with m:=s.m.set p e }:St).put dst d by grind[pk,wr,RI.dst]) (by rw[z];exact r)
  .rename_i z;have J:(RI.op dst g i).MC=true:=by
    have:=hc 0 _ (by omega) rfl;have h0:pO pl 0=none:=by rw[←z];cases pl<;>rfl
    simp_all
   simp only[z,Yw,Zl]at join;obtain⟨n,h⟩:=h;have on:∀{d:D} {m':List Ent},Jf s i=true->ea s i=some (d,m')->(gate s g=some none\/∃c,gate s g=some (some (c,c)))->Pm P pl.tail ps.tail (fp++[Rl s (.op dst g i)]) q l K ({ s with m:=m' }.put dst d)->
    ∃os rs s1,gw P pl ((RI.op dst g i::l).take (q+1)) s os rs s1/\Wi P ((RI.op dst g i::l).drop (q+1)) K s1/\(∀j,j<q+1->∀i∈ps.getD j [],i<fp.length+j->Mo ((fp++rs).getD i []) (rs.getD j [])=true):=by
    intro d m' C he u r;simp only[RI.MC,yad,decide_eq_true_eq]at J;by_cases L:i.cls<=2
    .have ext:∃x,m'=s.m++x:=by
      rcases Wab i.cls 2 with h2|h2
      .exact⟨[],by rw[Xaa];exact(vo (s:=s) (s':=s) (by omega) (λ_ _=>rfl) (λ_ _ _ _=>rfl) he).1⟩
      .obtain⟨e,h,_⟩:=UB (s:=s) (s':=s) (by omega) (λ_ _=>rfl) rfl he
       simp_all
     obtain⟨x,rfl⟩:=ext;exact join n (x:=x) (w:=none) (.inl ⟨u,.inl ⟨rfl,L,he⟩⟩) rfl r
    .have ht:i.UR.isSome=true:=by simp_all
     obtain⟨a,ha⟩:=Option.isSome_iff_exists.1 ht;obtain⟨id,e,H,rfl,I,h4⟩:=cH ha C he;refine join n (x:=[]) (w:=some (id,e)) (.inl ⟨u,.inr ⟨rfl,a,id,e,ha,H,rfl,he,?_,C⟩⟩) ?_ r
     all_goals grind[pk,wr,RI.dst]
   have off:(∃c b,gate s g=some (some (c,b))/\c≠b)->Pm P pl.tail ps.tail (fp++[Rl s (.op dst g i)]) q l K (s.put dst (.v undef))->
    ∃os rs s1,gw P pl ((RI.op dst g i::l).take (q+1)) s os rs s1/\Wi P ((RI.op dst g i::l).drop (q+1)) K s1/\(∀j,j<q+1->∀i∈ps.getD j [],i<fp.length+j->Mo ((fp++rs).getD i []) (rs.getD j [])=true):=λu r=>
    join n (d:=.v undef) (x:=[]) (w:=none) (.inr ⟨u,rfl,rfl,rfl⟩) (by simp_all[pk,wr,RI.dst]) r
   split at h
   .simp_all
   .grind
   .rename_i c b u;by_cases t:c=b
    .subst t;obtain⟨d,m',C,he,r⟩:=h.1 rfl
     simp_all
    .exact off ⟨c,b,u,t⟩ (h.2 t)
 |q+1,.call dst g f args::l,s,pl,ps,fp,h,hc=>by
  have A:∀(j:Nat) y,j<q->l[j]?=some y->((pO pl.tail j).isSome || y.MC)=true:=λj y hj O=>by grind[dP]
  rcases z:pl.headD none with _|p
  rotate_left
  .simp only[Pm]at h
   cases hf:s.cv f with
   |fn k first caps=>
    simp only[z,hf]at h;obtain⟨rfl,M,n,d,e,o,r⟩:=h;obtain⟨os,rs,s1,H,h2,I⟩:=wz r A;refine⟨(d,[],some (p,e))::os,Mb s args::rs,s1,?_,by simp_all,λj hj k hk G=>?_⟩
    .simp only[Aab,gw,z];refine⟨d,[],some (p,e),os,rs,rfl,rfl,.inr ⟨dst,f,args,k,first,caps,e,rfl,rfl,rfl,hf,M,o.1,o.2⟩,?_⟩
     grind[pk,wr,RI.dst]
    .cases j with
     |zero=>
      have E:k∈ps.headD []:=by cases ps with|nil=>simp at hk|cons a b=>simp_all
      have F:k<fp.length:=by omega
      have B:(fp++Mb s args::rs).getD k []=fp.getD k []:=by
       grind
      grind[WC]
     |succ j=>
      grind[nab]
   |_=>simp only[z,hf]at h
  have haf:∀d,pk s (.call dst g f args) d [] none=s.put dst d:=λd=>by simp_all[pk,wr,RI.dst]
  have join:∀{d},gz fp (Mb s args) (ps.headD [])=true->iu P (.call dst g f args) s d [] none->Pm P pl.tail ps.tail (fp++[Mb s args]) q l K (s.put dst d)->
   ∃os rs s1,gw P pl ((RI.call dst g f args::l).take (q+1)) s os rs s1/\Wi P ((RI.call dst g f args::l).drop (q+1)) K s1/\(∀j,j<q+1->∀i∈ps.getD j [],i<fp.length+j->Mo ((fp++rs).getD i []) (rs.getD j [])=true):=by
   intro d n N r;obtain⟨os,rs,s1,H,h2,I⟩:=wz r A;refine⟨(d,[],none)::os,Mb s args::rs,s1,by simp only[Aab,gw,z,Yw,Rl,Zl];grind,by simp_all,λj hj k hk G=>?_⟩
   cases j with
   |zero=>
    have E:k∈ps.headD []:=by cases ps with|nil=>simp at hk|cons a b=>simp_all
    have F:k<fp.length:=by omega
    have B:(fp++Mb s args::rs).getD k []=fp.getD k []:=by
     grind
    grind[WC]
   |succ j=>
    grind[nab]
  simp only[Pm]at h
  cases hf:s.cv f with
  |fn k first caps=>
   simp only[z,hf]at h;split at h
   .simp_all
   .rename_i u;obtain⟨n,d,o,r⟩:=h;exact join n ⟨rfl,rfl,.inl ⟨k,first,caps,hf,.inl u,o⟩⟩ r
   .rename_i c b u;obtain⟨n,h⟩:=h;by_cases t:c=b
    .subst t;obtain⟨d,o,r⟩:=h.1 rfl;exact join n ⟨rfl,rfl,.inl ⟨k,first,caps,hf,.inr ⟨c,u⟩,o⟩⟩ r
    .exact join n ⟨rfl,rfl,.inr ⟨⟨c,b,u,t⟩,rfl⟩⟩ (h.2 t)
  |_=>
   simp only[z,hf]at h;obtain⟨n,⟨c,b,u,t⟩,r⟩:=h;exact join n ⟨rfl,rfl,.inr ⟨⟨c,b,u,t⟩,rfl⟩⟩ r
end
section
variable {P:Program} {N:Nat} {ops:Array Oper} {Q:Exit->Act->World->Prop} {K:St->Prop} {rl:List RI} {q:Nat} {ps:List (List Nat)} {pl:List (Option Nat)}
theorem Ey(Yt:P.follows .mixedOrders=true) (hc:mg P ops ops.toList=some rl) (hf:DrawFactsO (Bb ops) rl q ps pl) {s:St}(B:Pm P pl ps [] q rl K s) (u:∀i p,pO pl i=some p->p<s.m.length)
 {id:Nat} {G:Gh} {w:World} {a:Act} (hr:Rel G w a s) (hQ:∀s' G' w' a',K s'->Rel G' w' a' s'->Step G w s.m G' w' s'.m->Q .normal a' w'):(Code.region id ops true).wp P Q a w:=by
 obtain⟨os,rs,s1,x,C,hap⟩:=wz B hf.MC;have c:(rl.take q).length=q:=by rw[vab];have:=hf.hq;omega
 have e:=x.length;rw[c]at e;have A:Jm rl os s (λ_=>true) 0=s:=rfl;obtain⟨g1,g2⟩:=gw.get (pl:=pl) (rl:=rl) (os:=os) (s0:=s) (k:=0) (l:=rl.take q) (os':=os) (s':=s1) (rs:=rs) (by simp) (by simp) (λj hj=>by omega) (by rw[A];exact x);simp only[c,Fab]at g1 g2;subst g2;have r:∀j,vd (Xab ops.size false) j=false:=by
  intro j;unfold vd;simp only[Oac,Had]
  grind
 have d:Jm rl os s (vd (Xab ops.size false)) q=s:=by
  have ht:∀n,tS (wQ rl) (c8 os) (vd (Xab ops.size false)) s.t n=s.t:=by
   intro n
   induction n with
   |zero=>rfl
   |succ n z=>simp_all[tS]
  have hm:∀n,mS (iG os) (vd (Xab ops.size false)) s.m n=s.m:=by
   intro n
   induction n with
   |zero=>rfl
   |succ n z=>simp_all[mS]
  have hw:∀n,sS (EP os) (vd (Xab ops.size false)) s.m n=s.m:=by
   intro n
   induction n with
   |zero=>rfl
   |succ n z=>simp_all[sS]
  grind[Jm]
 refine wp_region_any Yt ?_;have v:=Same.drew w;refine nM hc hf (λi hi=>(g1 i hi).1) u ?_ ?_ C ops.size _ G _ a ?_ (by simp) ?_ (λj _=>r j) ?_ (λj _ h=>by simp_all) ?_
 .intro i hi hx;have h:=(g1 i hi).1;rcases y:pO pl i with _|p
  .rw[y]at h;refine⟨?_,rfl⟩
   cases o:rl.getD i oP with
   |call dst g f args=>
    rw[o]at h;obtain⟨h,_⟩:=h
    simp_all
   |op dst g j=>
    rw[o]at h;rcases h with⟨-,⟨_,hcl,h⟩|⟨h,_⟩⟩|⟨-,-,h,_⟩
    .simp only[RI.cls];rcases Wab j.cls 2 with h2|h2
     .obtain⟨hm,-⟩:=vo (s:=Jm rl os s (λ_=>true) i) (s':=Jm rl os s (λ_=>true) i) (by omega) (λ_ _=>rfl) (λ_ _ _ _=>rfl) h
      simp_all
     omega
    all_goals simp_all
  .rw[y]at h;rcases h with⟨_,_,_,_,h,_⟩|⟨_,_,_,_,_,_,_,_,h,_⟩
   all_goals simp_all
 .grind[NG]
 .grind
 .intro i b _ hi
  simp_all
 .rw[d];exact⟨hr.t.mono (v.le G),v.inv hr.inv,hr.defers⟩
 .intro s' G' w' a' D E k3;rw[d]at k3;exact hQ s' G' w' a' D E ((v.step G s.m).trans k3)
def jz(m:List Ent) (pl:List (Option Nat)):Bool:=pl.all λo=>match o with|some p=>decide (p<m.length)|none=>true
theorem HV{m:List Ent}{pl:List (Option Nat)}(h:jz m pl=true):∀i p,pO pl i=some p->p<m.length:=by
 intro i p a;unfold jz at h;rw[Yaa]at h;unfold pO at a;have hm:some p∈pl:=by
  grind
 grind
theorem T.anyO(hm:P.follows .mixedOrders=true) {cuts:List Nat}{bs:List (List Nat)}{l:List RI}{K:Exit->St->Prop}{s:St}(ps:List (List Nat)) (pl:List (Option Nat)) (c:Et bs l q ps pl=true) (d:jz s.m pl=true) (h:Pm P pl ps [] q l (K .normal) s):T P N (.any cuts q bs l) K s:=by
 intro code hc G w a hN hr;obtain⟨id,ops,rfl,rfl,b,e⟩:=vT hc;exact Ey hm b (pG (cJ e).1 c) h (HV d) hr λs' G' w' a' f g k3=>⟨s',G',f,g,k3.lX hN⟩
theorem Dt{K:St->Prop}:∀{q:Nat}{l:List RI}{ps fp:List (List Nat)}{s:St},Qv P ps fp q l K s->Pm P [] ps fp q l K s
 |0,l,ps,fp,s,h=>by simpa only[Pm,Qv] using h
 |q+1,[],ps,fp,s,h=>by simp[Qv]at h
 |q+1,.op dst g i::l,ps,fp,s,h=>by
  simp only[Pm,Qv,Iae,Mae]at h⊢;refine⟨h.1,?_⟩;have h2:=h.2
  cases j:gate s g with
  |none=>simp_all
  |some o=>
   cases o with
   |none=>
    simp only[j]at h2⊢;obtain⟨d,m',a,h2,e⟩:=h2;exact⟨d,m',a,h2,Dt e⟩
   |some m=>
    obtain⟨c,b⟩:=m;simp only[j]at h2⊢;refine⟨λhc=>?_,λhc=>Dt (h2.2 hc)⟩;obtain⟨d,m',a,h2,e⟩:=h2.1 hc;exact⟨d,m',a,h2,Dt e⟩
 |q+1,.call dst g f args::l,ps,fp,s,h=>by
  simp only[Pm,Qv,Iae,Mae]at h⊢
  cases hf:s.cv f with
  |fn k first caps=>
   simp only[hf]at h⊢
   cases j:gate s g with
   |none=>simp_all
   |some o=>
    cases o with
    |none=>
     simp only[j]at h⊢;obtain⟨n,d,a,e⟩:=h;exact⟨n,d,a,Dt e⟩
    |some m=>
     obtain⟨c,b⟩:=m;simp only[j]at h⊢;refine⟨h.1,λhc=>?_,λhc=>Dt (h.2.2 hc)⟩;obtain⟨d,a,e⟩:=h.2.1 hc;exact⟨d,a,Dt e⟩
  |_=>simp only[hf]at h
theorem T.any2(hm:P.follows .mixedOrders=true) {cuts:List Nat}{bs:List (List Nat)}{l:List RI}{K:Exit->St->Prop}{s:St}(ps:List (List Nat)) (a:Et bs l q ps []=true) (h:Qv P ps [] q l (K .normal) s):T P N (.any cuts q bs l) K s:=
 T.anyO hm ps [] a rfl (Dt h)
theorem T.drawO(hm:P.follows .mixedOrders=true) {l:List RI}{K:Exit->St->Prop}{s:St}(h:Pm P [] [] [] q l (K .normal) s):T P N (.draw q l) K s:=by
 intro code hc G w a hN hr;obtain⟨id,ops,rfl,f,n⟩:=RA hc;have hf:=Nr n;have b:∀i,pO [] i=none:=λi=>rfl;have notgt:∀(j:Nat) d g i,j<q->l[j]?=some (.op d g i)->i.UR=none:=by
  intro j d g i hj hl;have o:=hf.cls j _ hj hl
  cases ht:i.UR with
  |none=>rfl
  |some x=>grind[RI.cls,tD]
 refine Ey hm f (ps:=[]) (pl:=[]) ⟨hf.toTailFacts,?_,?_,?_⟩ h (λi p hp=>by simp_all) hr λs' G' w' a' r t k3=>⟨s',G',r,t,k3.lX hN⟩
 .intro j y hj e;have:=hf.cls j y hj e;rw[b]
  cases y with
  |call=>rfl
  |op d g i=>grind[RI.MC,RI.cls]
 .intro i j x y c hj hx e hcl;refine hf.apart i j x y c hj hx e ?_
  grind[Rt,ry]
 .intro i j x y c hj hx e m;exfalso;rw[b,b]at m
  cases x with
  |call=>
   cases y with
   |call=>grind[qu,wB]
   |op d g k=>grind[qu,wB]
  |op d g k=>
   have o:=notgt i d g k (by omega) hx
   cases y with
   |call=>grind[qu,wB]
   |op d' g' k'=>grind[qu,wB]
theorem T.drawP(hm:P.follows .mixedOrders=true) {l:List RI}{K:Exit->St->Prop}{s:St}(ps:List (List Nat)) (pl:List (Option Nat)) (hcl:∀i p,pO pl i=some p->∃a b c d,l[i]?=some (.call a b c d))
 (hps:∀j,j<q->∀i,i<j->i∈ps.getD j []) (n:jz s.m pl=true) (h:Pm P pl ps [] q l (K .normal) s):T P N (.draw q l) K s:=by
 intro code hc G w a hN hr;obtain⟨id,ops,rfl,e,k⟩:=RA hc;have hf:=Nr k;refine Ey hm e (ps:=ps) (pl:=pl) ⟨hf.toTailFacts,?_,?_,?_⟩ h (HV n) hr λs' G' w' a' r t k3=>⟨s',G',r,t,k3.lX hN⟩
 .intro j y hj o;have:=hf.cls j y hj o
  cases y with
  |call=>simp[RI.MC]
  |op d g i=>grind[RI.MC,RI.cls]
 .intro i j x y f hj hx o hcl';refine hf.apart i j x y f hj hx o ?_
  grind[Rt,ry]
 simp_all
end
section
variable {P:Program} {N:Nat}
mutual
def Ad(n:Nat):D->D->Prop
 |.v x,.own i v=>x=.slice none 0 0/\i=n/\v=0
 |.agg l,.agg r=>Ip n l r
 |d,e=>d=e
def Ip(n:Nat):List D->List D->Prop
 |[],r=>r=[]
 |d::l,r=>∃e a,r=e::a/\Ad n d e/\Ip n l a
end
theorem Ad.inv{n:Nat}{d e:D}(h:Ad n d e):(d=.v (.slice none 0 0)/\e=.own n 0)\/(∃l r,d=.agg l/\e=.agg r/\Ip n l r)\/d=e:=by
 cases d<;>cases e<;>simp_all[Ad]
mutual
theorem Ad.rel{G:Gh}{w:World}{n:Nat}(ho:VRel G w (.own n 0) (.slice none 0 0)):∀{d e:D}{u:Value},Ad n d e->VRel G w d u->VRel G w e u
 |.agg l,e,u,b,h=>by
  rcases b.inv with⟨a,_⟩|⟨l',r,a,rfl,c⟩|rfl
  .grind
  .injection a with a;subst a;simp only[VRel]at h⊢;obtain⟨cs,rfl,h,a⟩:=h;exact⟨cs,rfl,Ip.rel ho c h,a⟩
  omega
 |.v x,e,u,b,h=>by
  rcases b.inv with⟨a,rfl⟩|⟨_,_,a,_⟩|rfl
  .injection a with a;subst a;simp only[VRel]at h;simp_all
  all_goals simp_all
 |.tup l,e,u,b,h=>by rcases b.inv with⟨a,_⟩|⟨_,_,a,_⟩|rfl<;>first|cases a|exact h
 |.sl S l,e,u,b,h=>by rcases b.inv with⟨a,_⟩|⟨_,_,a,_⟩|rfl<;>first|cases a|exact h
 |.pt x,e,u,b,h=>by rcases b.inv with⟨a,_⟩|⟨_,_,a,_⟩|rfl<;>first|cases a|exact h
 |.ref _ _ _ _,e,u,b,h=>by rcases b.inv with⟨a,_⟩|⟨_,_,a,_⟩|rfl<;>first|cases a|exact h
 |.own _ _,e,u,b,h=>by rcases b.inv with⟨a,_⟩|⟨_,_,a,_⟩|rfl<;>first|cases a|exact h
 |.view _ _ _ _,e,u,b,h=>by rcases b.inv with⟨a,_⟩|⟨_,_,a,_⟩|rfl<;>first|cases a|exact h
 |.fn _ _ _,e,u,b,h=>by rcases b.inv with⟨a,_⟩|⟨_,_,a,_⟩|rfl<;>first|cases a|exact h
 |.mp _,e,u,b,h=>by rcases b.inv with⟨a,_⟩|⟨_,_,a,_⟩|rfl<;>first|cases a|exact h
 |.ifc _ _,e,u,b,h=>by rcases b.inv with⟨a,_⟩|⟨_,_,a,_⟩|rfl<;>first|cases a|exact h
 |.dead,e,u,b,h=>by rcases b.inv with⟨a,_⟩|⟨_,_,a,_⟩|rfl<;>first|cases a|exact h
theorem Ip.rel{G:Gh}{w:World}{n:Nat}(ho:VRel G w (.own n 0) (.slice none 0 0)):∀{l r:List D}{us:List Value},Ip n l r->VsRel G w l us->VsRel G w r us
 |[],r,us,a,h=>by simp only[Ip]at a;simp_all
 |d::l,r,us,a,h=>by
  simp only[Ip]at a;obtain⟨e,r',rfl,c,h2⟩:=a;simp only[VsRel]at h⊢;obtain⟨u,b,rfl,g1,g2⟩:=h;exact⟨u,b,rfl,Ad.rel ho c g1,Ip.rel ho h2 g2⟩
end
theorem Ip.row{G:Gh}{w:World}{n b S:Nat}(ho:VRel G w (.own n 0) (.slice none 0 0)):∀{l r:List D}{off:Nat},Ip n l r->Qa G w b S l off->Qa G w b S r off
 |[],r,off,a,h=>by simp only[Ip]at a;subst a;exact h
 |d::l,r,off,a,h=>by
  simp only[Ip]at a;obtain⟨e,r',rfl,c,h2⟩:=a;simp only[Qa]at h⊢;obtain⟨⟨u,g1,g2,g3⟩,g4⟩:=h;exact⟨⟨u,Ad.rel ho c g1,g2,g3⟩,Ip.row ho h2 g4⟩
theorem Ip.length{n:Nat}:∀{l r:List D},Ip n l r->l.length=r.length
 |[],r,h=>by simp[Ip]at h;simp[h]
 |d::l,r,h=>by
  simp only[Ip]at h;obtain⟨e,r',rfl,_,h2⟩:=h;simp[Ip.length h2]
mutual
theorem Ad.refl(n:Nat):∀d:D,Ad n d d
 |.agg l=>by simp only[Ad];exact Ip.refl n l
 |.v x=>by simp[Ad]
 |.tup l=>by simp[Ad]
 |.sl S l=>by simp[Ad]
 |.pt d=>by simp[Ad]
 |.ref ..=>by simp[Ad]
 |.own ..=>by simp[Ad]
 |.view ..=>by simp[Ad]
 |.fn ..=>by simp[Ad]
 |.mp ..=>by simp[Ad]
 |.ifc ..=>by simp[Ad]
 |.dead=>by simp[Ad]
theorem Ip.refl(n:Nat):∀l:List D,Ip n l l
 |[]=>by simp[Ip]
 |d::l=>by simp only[Ip];exact⟨d,l,rfl,Ad.refl n d,Ip.refl n l⟩
end
theorem Ip.cons{n:Nat}{d e:D}{l r:List D}(h1:Ad n d e) (h2:Ip n l r):Ip n (d::l) (e::r):=by
 simp only[Ip];grind
theorem Ad.nil(n:Nat):Ad n (.v (.slice none 0 0)) (.own n 0):=by simp[Ad]
def wC(n:Nat):Ent->Ent->Prop
 |.live S v l,.live S' c l'=>S=S'/\v=c/\Ip n l l'
 |.mp a,.mp b=>a.map (·.1)=b.map (·.1)/\Ip n (a.map (·.2)) (b.map (·.2))
 |e,e'=>e=e'
def Vu(n:Nat):List Ent->List Ent->Prop
 |[],r=>r=[]
 |d::l,r=>∃e a,r=e::a/\wC n d e/\Vu n l a
theorem wC.refl(n:Nat) (e:Ent):wC n e e:=by cases e<;>simp[wC,Ip.refl]
theorem Vu.refl(n:Nat):∀m:List Ent,Vu n m m
 |[]=>by simp[Vu]
 |d::l=>by simp only[Vu];exact⟨d,l,rfl,wC.refl n d,Vu.refl n l⟩
theorem Vu.cons{n:Nat}{d e:Ent}{l r:List Ent}(h1:wC n d e) (h2:Vu n l r):Vu n (d::l) (e::r):=by
 simp only[Vu];grind
theorem wC.live{n S v:Nat}{l r:List D}(h:Ip n l r):wC n (.live S v l) (.live S v r):=by simp only[wC];simp_all
theorem Vu.get{n:Nat}:∀{m m':List Ent},Vu n m m'->m.length=m'.length/\∀(i:Nat) e,m'[i]?=some e->∃a,m[i]?=some a/\wC n a e
 |[],m',h=>by simp[Vu]at h;subst h;simp
 |d::m,m',h=>by
  simp only[Vu]at h;obtain⟨e,r',rfl,b,h2⟩:=h;obtain⟨c,f⟩:=Vu.get h2;refine⟨by simp[c],λi e' he=>?_⟩
  cases i with
  |zero=>simp at he;subst he;exact⟨d,rfl,b⟩
  |succ i=>simpa using f i e' (by simpa using he)
theorem Vu.append{n:Nat}:∀{m m':List Ent}(x:List Ent),Vu n m m'->Vu n (m++x) (m'++x)
 |[],m',x,h=>by simp[Vu]at h;subst h;exact Vu.refl n x
 |d::m,m',x,h=>by
  simp only[Vu]at h;obtain⟨e,r',rfl,a,h2⟩:=h;simp only[List.cons_append];exact Vu.cons a (Vu.append x h2)
theorem iV{G:Gh}{w:World}{n:Nat}(ho:VRel G w (.own n 0) (.slice none 0 0)):∀{a b:List (Value×D)}{es:List MapEntry},a.map (·.1)=b.map (·.1)->Ip n (a.map (·.2)) (b.map (·.2))->xd G w a es->xd G w b es
 |[],[],_,_,_,h=>h
 |(k,d)::a,(k',d')::b,es,hk,hd,h=>by
  obtain⟨e,r,c,f,h2,g⟩:=h;simp only[Gaa,zad]at hk;simp only[Gaa,Ip,zad]at hd;obtain⟨x,r',⟨rfl,rfl⟩,g1,g2⟩:=hd;exact⟨e,r,c,by rw[f,hk.1],Ad.rel ho g1 h2,iV ho hk.2 g2 g⟩
 |[],_::_,_,hk,_,_=>by simp at hk
 |_::_,[],_,hk,_,_=>by simp at hk
theorem wC.rel{G:Gh}{w:World}{n i:Nat}{e e':Ent}(ho:VRel G w (.own n 0) (.slice none 0 0)) (h:wC n e e') (hr:ik G w i e):ik G w i e':=by
 cases e with
 |live S v l=>
  cases e' with
  |live S' v' l'=>
   simp only[wC]at h;obtain⟨rfl,rfl,h⟩:=h;obtain⟨g,s,q,r,j⟩:=hr;rw[h.length]at q r;refine⟨g,s,q,r,?_⟩;rcases j with j|⟨k,cs,T,d,m,c,p,f⟩
   .exact .inl j
   .exact .inr ⟨k,cs,T,d,m,c,p,Ip.row ho h f⟩
  |_=>simp[wC]at h
 |mp a=>
  cases e' with
  |mp b=>
   simp only[wC]at h;obtain⟨g,k,u,t,d,m,c,o⟩:=hr;exact⟨g,k,u,t,d,m,c,iV ho h.1 h.2 o⟩
  |_=>simp[wC]at h
 |gone=>simp only[wC]at h;subst h;exact hr
theorem wC.isLive{n:Nat}{e e':Ent}(h:wC n e e'):e'.isLive=e.isLive:=by
 cases e<;>cases e'<;>simp_all[wC,Ent.isLive]
theorem T.OS{c:C}{K:Exit->St->Prop}{s:St}(S:Nat) {t':List D}{m':List Ent}(ht:Ip s.m.length s.t t') (hm:Vu s.m.length s.m m') (h:Tm.T P N c K ⟨t',m'++[.live S 0 []]⟩):Tm.T P N c K s:=by
 refine T.ghost (λG w a hN hr=>?_) h;have d:=jw (w':=w) hr.inv none S 0 0 (.live S 0 []) rfl rfl rfl rfl (Haa _) (λ_ _=>rfl) (λk h=>by cases h)
  ⟨by simp[Gh.add],by simp[Gh.add],by simp[Gh.add],by simp,.inl ⟨by simp[Gh.add],by simp[Gh.add]⟩⟩
 have ho:=Rw (s:=s) (b:=none) (S:=S) (N:=0) (C:=0) (w':=w) hr.inv.n;have o:=(Vu.append [.live S 0 []] hm).get;have hi:=d.1;refine⟨_,⟨Ip.rel ho ht (hr.t.mono d.2.le),⟨by rw[hi.n,o.1],hi.F,λi e he=>?_,λi j e e' he v hl hl' b hb u=>?_,hi.gl⟩,hr.defers⟩,?_⟩
 .obtain⟨f,g,l⟩:=o.2 i e he;exact l.rel ho (hi.ent i f g)
 .obtain⟨f,g,l⟩:=o.2 i e he;obtain⟨p,q,r⟩:=o.2 j e' v;exact hi.apart i j f p g q (by rw[←l.isLive];omega) (by rw[←r.isLive];omega) b hb u
 .refine { d.2.lX hN with newB:=λb hb x=>d.2.newB b hb ?_ };obtain⟨i,e,he,hl,y⟩:=x;obtain⟨f,g,l⟩:=o.2 i e he;exact⟨i,f,g,by rw[←l.isLive];omega,y⟩
end
def FD(S id x:Nat) (s:St):St:=
 match s.m[id]? with
 |some (.live S' v l)=>
  match l[x]? with
  |some (.v (.slice none 0 0))=>⟨s.t,s.m.set id (.live S' v (l.set x (.own s.m.length 0)))++[.live S 0 []]⟩
  |_=>s
 |_=>s
theorem Ip.set{n:Nat}:∀{l:List D}{x:Nat},l[x]?=some (.v (.slice none 0 0))->Ip n l (l.set x (.own n 0))
 |[],x,h=>by grind
 |d::l,0,h=>by grind[Ip.cons,Ad.nil,Ip.refl]
 |d::l,x+1,h=>Ip.cons (Ad.refl n d) (Ip.set (by simp_all))
theorem Vu.set{n S v:Nat}{l l':List D}(hl:Ip n l l'):∀{m:List Ent}{id:Nat},m[id]?=some (.live S v l)->Vu n m (m.set id (.live S v l'))
 |[],id,h=>by grind
 |e::m,0,h=>by grind[Vu.cons,wC.live,Vu.refl]
 |e::m,id+1,h=>Vu.cons (wC.refl n e) (Vu.set hl (by simp_all))
theorem PS{P:Program}{N:Nat}{c:C}{K:Exit->St->Prop}{S id x:Nat}{s:St}(h:Tm.T P N c K (FD S id x s)):Tm.T P N c K s:=by
 unfold FD at h;split at h
 .rename_i S' v l hm;split at h
  .rename_i hx;exact T.OS S (Ip.refl _ _) (Vu.set (Ip.set hx) hm) h
  omega
 omega
def vt(S id:Nat):Nat->St->St
 |0,s=>s
 |x+1,s=>FD S id x (vt S id x s)
theorem IA{P:Program}{N:Nat}{c:C}{K:Exit->St->Prop}{S id:Nat}:∀{x:Nat}{s:St},Tm.T P N c K (vt S id x s)->Tm.T P N c K s
 |0,s,h=>h
 |x+1,s,h=>IA (x:=x) (PS h)
def makS:RI->Option Nat
 |.op _ none (.alloc S _)=>some S
 |.op _ none (.box S _)=>some S
 |.op _ none (.bslice S _ _ _)=>some S
 |_=>none
def isMk:RI->Bool
 |.op _ _ i=>Cae i.cls 2
 |_=>false
def places:List RI->Nat->List (Option Nat)
 |[],_=>[]
 |r::l,n=>
  match makS r with
  |some _=>bif l.any isMk then some n::places l (n+1)else none::places l n
  |none=>none::places l n
def lent(m:List Ent) (d:D):Option D:=
 bif flat d then some d else
 match d with
 |.own id Na=>
  match m[id]? with
  |some (.live S v l)=>bif Cae v Na&&gH l then some (.sl S l)else none
  |_=>none
 |_=>none
def qC(id Na:Nat) (d:D):D:=
 match d with
 |.ref i v x s=>bif Cae i id&&Cae v Na then .ref 0 0 x s else .dead
 |d=>bif la d then d else .dead
theorem HR{G G':Gh}{w:World}{id Na:Nat}(a:SubF G w G' w) (hr:∀x s u,VRel G w (.ref id Na x s) u->VRel G' w (.ref 0 0 x s) u) {d:D}{u:Value}(h:VRel G w d u):VRel G' w (qC id Na d) u:=by
 unfold qC;split
 .rename_i i v x s;cases hb:(Cae i id&&Cae v Na)
  .simp[VRel]
  simp_all
 .cases hf:la d
  .simp[VRel]
  .exact h.free a hf
section
variable {P:Program}
theorem gT{k id S Na:Nat}{l X:List D}{m m1:List Ent}{ds:List D}{d1:D}
 (t:m[id]?=some (.live S Na l)) (hl:fa l=true) (J:m1[0]?=some (.live S 0 X))
 (h:CallT P k (ds.map (qC id Na)) [.live S 0 l] λd m'=>d=d1/\m'=m1) :
 CallT P k ds m λd m'=>d=bf 8 (m1.set 0 .gone) d1/\m'=m.set id (.live S Na (X.map (bf 8 (m1.set 0 .gone)))):=by
 refine⟨h.1,λG w vs hv hi=>?_⟩;have hlen:id<m.length:=(iab.1 t).1;obtain⟨eV,eS,eN,eC,eB⟩:=hi.ent id _ t;have M:SubF G w ⟨G.F,1,λ_=>G.B id,λ_=>0,λ_=>G.S id,λ_=>G.N id,λ_=>G.C id⟩ w:=⟨λ_ h=>h,λ_ _=>rfl⟩;have hv':=kq (G':=⟨G.F,1,λ_=>G.B id,λ_=>0,λ_=>G.S id,λ_=>G.N id,λ_=>G.C id⟩) (f:=qC id Na) (λd u hu=>HR M (λx s u hu=>by
  simp only[VRel]at hu⊢
  grind) hu) hv
 have hic:Inv ⟨G.F,1,λ_=>G.B id,λ_=>0,λ_=>G.S id,λ_=>G.N id,λ_=>G.C id⟩ w [.live S 0 l]:=by
  refine⟨rfl,hi.F,?_,?_,hi.gl.bare λ_ h=>h⟩
  .intro i e he
   cases i with
   |zero=>
    simp at he;subst he;refine⟨rfl,eS,eN,eC,?_⟩;rcases eB with h|⟨b,cs,T,p,h2,W,Z,h5⟩
    .simp_all
    .exact .inr ⟨b,cs,T,p,h2,W,Z,Qa.free M rfl hl h5⟩
   |succ i=>simp at he
  grind
 have r:∀b,df ⟨G.F,1,λ_=>G.B id,λ_=>0,λ_=>G.S id,λ_=>G.N id,λ_=>G.C id⟩ [.live S 0 l] b->G.B id=some b:=by
  rintro b ⟨i,e,he,-,E⟩;omega
 refine(h.2 _ w vs hv' hic).mono ?_;rintro e w' ⟨v,d,m',G',rfl,⟨rfl,rfl⟩,hvd,g,a⟩;obtain⟨fV,fS,fN,fC,fB⟩:=g.ent 0 _ J;have hlen1:0<m'.length:=(iab.1 J).1;have live1:(Ent.live S Na l).isLive=true:=rfl;obtain⟨sB,sS,sN,sC⟩:G'.B 0=G.B id/\G'.S 0=G.S id/\G'.N 0=G.N id/\G'.C 0=G.C id:=by
  rcases a.le.id 0 (Nat.lt_succ_self 0)with⟨_,p,h2,W,Z⟩|h
  all_goals simp_all
 have c:∀i x,(m'.set 0 .gone)[i]?=some x->(i=0/\x=.gone)\/(i≠0/\m'[i]?=some x):=by
  grind
 have O:Inv G' w' (m'.set 0 .gone):=by
  refine⟨by simpa using g.n,g.F,?_,?_,g.gl⟩
  .intro i x hx;rcases c i x hx with⟨rfl,rfl⟩|⟨L,hx⟩
   .trivial
   .exact g.ent i x hx
  .intro i j x y hx U A Y b hb I;rcases c i x hx with⟨rfl,rfl⟩|⟨L,hx⟩
   .cases A
   .rcases c j y U with⟨rfl,rfl⟩|⟨p,U⟩
    .cases Y
    .exact g.apart i j x y hx U A Y b hb I
 have H:∀b,df G' (m'.set 0 .gone) b->df G' m' b/\G'.B 0≠some b:=by
  rintro b ⟨i,x,hx,A,E⟩;rcases c i x hx with⟨rfl,rfl⟩|⟨L,hx⟩
  .cases A
  .exact⟨⟨i,x,hx,A,E⟩,λh=>L (g.apart i 0 x _ hx J A rfl b E h)⟩
 have hF':∀b,(G'.F b\/df G' (m'.set 0 .gone) b)->b<w'.heap.size:=by
  rintro b (hb|hb)
  .exact g.F b hb
  .exact(df.lt O hb).1
 have R:∀d u,VRel G' w' d u->VRel ⟨λb=>G'.F b\/df G' (m'.set 0 .gone) b,G.n,G.B,G.V,G.S,G.N,G.C⟩ w' (bf 8 (m'.set 0 .gone) d) u:=by
  intro d u hu;have L:=iK O 8 d u hu;refine VRel.free ?_ (vx _ _ _) L;exact⟨λ_ h=>h,λ_ _=>rfl⟩
 have Q:Le G w ⟨λb=>G'.F b\/df G' (m'.set 0 .gone) b,G.n,G.B,G.V,G.S,G.N,G.C⟩ w':=
  ⟨λb hb=>.inl (a.le.F b hb),λb hb=>a.le.heap b hb,Haa _,λi _=>.inl (by simp)⟩
 have K:∀i x,m[i]?=some x->x.isLive=true->∀b,G.B i=some b->b<w.heap.size/\¬G.F b:=λi x hx hl b hb=>(hi.ent i x hx).lt hl hb;have notO:∀i x,m[i]?=some x->x.isLive=true->i≠id->∀b,G.B i=some b->G.B id≠some b:=λi x hx o hne b hb E=>hne (hi.apart i id x _ hx t o live1 b hb E);have q:∀i x,(m.set id (.live S Na (X.map (bf 8 (m'.set 0 .gone)))))[i]?=some x->(m[i]?=some x/\i≠id)\/(i=id/\x=.live S Na (X.map (bf 8 (m'.set 0 .gone)))):=by
  grind
 refine⟨v,_,_,⟨λb=>G'.F b\/df G' (m'.set 0 .gone) b,G.n,G.B,G.V,G.S,G.N,G.C⟩,rfl,⟨rfl,rfl⟩,R _ _ hvd,⟨by simp[hi.n],hF',?_,?_,g.gl.bare λ_ h=>.inl h⟩,⟨Q,a.os,a.tape,a.output,a.size,?_,?_,?_⟩⟩
 .intro i x hx;rcases q i x hx with⟨p,h2⟩|⟨rfl,rfl⟩
  .by_cases o:x.isLive=true
   .refine(hi.ent i x p).mono Q (by simp) (λb hb=>?_) (λb hb _ z=>?_)
    .exact a.keep b (K i x p o b hb).1 λho=>notO i x p o h2 b hb (r b ho)
    .rcases z with z|z
     .rcases a.newF b (K i x p o b hb).1 z with h|h
      all_goals grind
     .exact(notO i x p o h2 b hb (r b (a.newB b (K i x p o b hb).1 (H b z).1))).elim
   .cases x with
    |gone=>trivial
    |_=>grind[Ent.isLive]
  .refine⟨eV,eS,by simp_all,by simp_all,?_⟩
   grind[Zq]
 .intro i j x y hx U A Y b hb I;rcases q i x hx with⟨p,h2⟩|⟨rfl,rfl⟩<;>rcases q j y U with⟨W,Z⟩|⟨rfl,rfl⟩
  .exact hi.apart i j x y p W A Y b hb I
  all_goals grind
 .intro b hb hno;exact a.keep b hb λho=>hno ⟨id,_,t,live1,r b ho⟩
 .intro b hb z;rcases z with z|z
  .rcases a.newF b hb z with h|h
   all_goals grind
  .exact .inr ⟨id,_,t,live1,r b (a.newB b hb (H b z).1)⟩
 .rintro b hb ⟨i,x,hx,A,E⟩;rcases q i x hx with⟨p,h2⟩|⟨rfl,rfl⟩
  .exact⟨i,x,p,A,E⟩
  .exact⟨i,_,t,live1,E⟩
end
def nw(q:Nat):List (List Nat):=(zaa q).map zaa
theorem tJ{q:Nat}:∀j,j<q->∀i,i<j->i∈(nw q).getD j []:=by
 grind[nw]
end Go.Tm
